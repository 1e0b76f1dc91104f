/- Owned slices whose elements own things. It holds for every program. -/
import Derived.Test.YtfffghclkmbopaaGreatKFoc
import Derived.Test.YtfffghclkmbopaaGreatKRange
set_option linter.unusedVariables false
namespace Go.Proofs.YtfffghclkmbopaaGreat

def Z0d (sz:Nat):Rp (List Value) where
  sz:=sz
  agg:=true
  rp:=fun _ _ cs x=>cs=x∧x.length=sz ∧ ∀ c ∈ x,c.oneCell' = true
  len:=fun h=>by rw [h.1]; exact h.2.1
  one:=fun h=>by rw [h.1]; exact h.2.2
  mono:=fun _ h=>h

structure En (α : Type) where
  sz:Nat
  A : α → List Value→Y8
  len : ∀ {T:Nat→Prop} {w:World} {F:Nat→Prop} {x : α} {cs:List Value},(A x cs).P T w F→cs.length=sz
  one : ∀ {T:Nat→Prop} {w:World} {F:Nat→Prop} {x : α} {cs:List Value},(A x cs).P T w F → ∀ c ∈ cs,c.oneCell' = true

def pA (p:Prop) (A:Y8):Y8 where
  P:=fun T w F=>p∧A.P T w F
  loc:=fun⟨h1,h2⟩ hT hs=>⟨h1,A.loc h2 hT hs⟩
  bnd:=fun⟨_,h⟩=>A.bnd h

def Q8o {α : Type} (E:En α) (l:List α) (css:List (List Value)) (h:Option Nat):Y8 where
  P:=fun T w F=>css.length=l.length ∧ ∃ fs:Nat→Nat→Prop,(∀ i x c,h ≠ some i→l[i]? = some x→css[i]? = some c→(E.A x c).P T w (fs i))∧(∀ i j k,fs i k→fs j k→i=j)∧(∀ i k,fs i k→h ≠ some i∧i < l.length) ∧ ∀ k,F k ↔ ∃ i,fs i k
  loc:=fun {T T' w w' F} ⟨h0,fs,h1,h2,h3,h4⟩ hT hs=>⟨h0,fs,fun i x c hi hx hc=>(E.A x c).loc (h1 i x c hi hx hc) hT fun k hk=>hs k (hk.imp id fun hk=>(h4 k).2 ⟨i,hk⟩),h2,h3,h4⟩
  bnd:=fun {T w F} ⟨h0,fs,h1,h2,h3,h4⟩ k hk=>by
    obtain⟨i,hi⟩:=(h4 k).1 hk
    obtain⟨hn,hl⟩:=h3 i k hi
    exact(E.A l[i] (css[i]'(by omega))).bnd (h1 i _ _ hn (List.getElem?_eq_getElem hl) (List.getElem?_eq_getElem (by omega))) k hi

def Z0p {α : Type} (E:En α) (e:TypeId) (v:Value) (l:List α):Y8:=exA fun css=>Y5 [K3 (Z0d E.sz) e v css,Q8o E l css none]

section
variable {g:World} {T T' : Nat→Prop} {w w' : World} {G:List Y8} {q:Nat} {A B:Y8}
theorem Sep.tail (h:Sep g T w (A::G)):Sep g T w G:=by
  obtain⟨h1,h2,h3,h4,fs,h5,h6⟩:=h;refine⟨h1,h2,h3,h4,fun i=>fs (i+1),⟨fun i hi=>h5.1 (i+1) (Nat.succ_lt_succ hi),fun i j k hi hj a b => ?_⟩,fun i k hi hk=>h6 (i+1) k (Nat.succ_lt_succ hi) hk⟩;have:=h5.2 _ _ k (Nat.succ_lt_succ hi) (Nat.succ_lt_succ hj) a b;omega
theorem Sep.pE {p:Prop} (h:Sep g T w (pA p A::G)):p∧Sep g T w (A::G):=by
  obtain⟨F,hF,_⟩:=h.get 0 rfl;exact⟨hF.1,h.imp 0 rfl fun F hF=>hF.2⟩
theorem Sep.pI {p:Prop} (hp:p) (h:Sep g T w (A::G)):Sep g T w (pA p A::G):=h.imp 0 rfl fun F hF=>⟨hp,hF⟩
theorem Sep.spl (h:Sep g T w G) (hi:AtR G q (Y5 [A,B])):Sep g T w (B::N9 G q A):=by
  obtain⟨h1,h2,h3,h4,fs,h5,h6⟩:=h;have hq:q < K6 G:=Nat.le_of_ble_eq_true hi.lt;have hP:=h5.1 q hq;rw [hi.at_] at hP;obtain⟨gs,f1,f2⟩:=hP;have gA:A.P T w (gs 0):=f1.1 0 (by simp [K6]);have gB:B.P T w (gs 1):=f1.1 1 (by simp [K6]);have in0 : ∀ k,gs 0 k→fs q k:=fun k hk=>(f2 k).2 ⟨0,by simp [K6],hk⟩;have in1 : ∀ k,gs 1 k→fs q k:=fun k hk=>(f2 k).2 ⟨1,by simp [K6],hk⟩
  have h01 : ∀ k,gs 0 k→gs 1 k→False:=fun k a b=>by
    have:=f1.2 0 1 k (by simp [K6]) (by simp [K6]) a b;omega
  let F:Nat→Nat→Prop:=fun i=>match i with
    | 0=>gs 1
    | i+1=>if i=q then gs 0 else fs i
  have hF1 : ∀ i k,F (i+1) k→fs i k∧(i=q→gs 0 k):=fun i k hk=>by
    by_cases hiq:i=q
    · have:gs 0 k:=by
        have hk' : (if i=q then gs 0 else fs i) k:=hk
        rwa [if_pos hiq] at hk'
      exact⟨hiq ▸ in0 k this,fun _=>this⟩
    · have hk' : (if i=q then gs 0 else fs i) k:=hk;rw [if_neg hiq] at hk';exact⟨hk',fun h=>absurd h hiq⟩
  refine⟨h1,h2,h3,h4,F,⟨fun i hi2 => ?_,fun i j k hi2 hj2 a b => ?_⟩,fun i k hi2 hk => ?_⟩
  · cases i with
    | zero=>exact gB
    | succ i =>
      have hil:i < K6 G:=by simpa [K6,M3] using hi2
      show(atA (N9 G q A) i).P T w (if i=q then gs 0 else fs i);rw [Z0x G q i A hq]
      by_cases hiq:i=q
      · rw [if_pos hiq,if_pos hiq]; exact gA
      · rw [if_neg hiq,if_neg hiq]; exact h5.1 i hil
  · have hl : ∀ i,i+1 < K6 (B::N9 G q A)→i < K6 G:=fun i h=>by simpa [K6,M3] using h
    cases i with
    | zero=>cases j with
      | zero=>rfl
      | succ j =>
        exfalso
        obtain⟨b1,b2⟩:=hF1 j k b;have:=h5.2 q j k hq (hl j hj2) (in1 k a) b1;exact h01 k (b2 this.symm) a
    | succ i=>cases j with
      | zero =>
        exfalso
        obtain⟨b1,b2⟩:=hF1 i k a;have:=h5.2 q i k hq (hl i hi2) (in1 k b) b1;exact h01 k (b2 this.symm) b
      | succ j =>
        have:=h5.2 i j k (hl i hi2) (hl j hj2) (hF1 i k a).1 (hF1 j k b).1;omega
  · cases i with
    | zero=>exact h6 q k hq (in1 k hk)
    | succ i =>
      have hil:i < K6 G:=by simpa [K6,M3] using hi2
      exact h6 i k hil (hF1 i k hk).1
theorem Sep.mrg (h:Sep g T w (B::G)) (hi:AtR G q A):Sep g T w (N9 G q (Y5 [A,B])):=by
  have hlt:Nat.blt (q+1) (K6 (B::G))=true:=by have:=Nat.le_of_ble_eq_true hi.lt; simp [K6]; omega
  have h2:=h.two (q+1) 0 (by
    simp only [Y4y,List.all_cons,List.all_nil,Bool.and_true,Bool.and_eq_true]
    exact⟨⟨hlt,(by cases q <;> rfl)⟩,by simp [K6]⟩)
  have e1:atA (B::G) (q+1)=A:=hi.at_;have e2:atA (B::G) 0=B:=rfl;rw [e1,e2] at h2;exact Sep.tail (A:=empA) h2
end

section
variable {g:World} {T T' : Nat→Prop} {w w' : World} {G:List Y8} {q:Nat} {α : Type} {E:En α} {e:TypeId} {v:Value} {l:List α}
theorem Sep.nopen (hS:Sep g T w G) (hi:AtR G q (Z0p E e v l)) : ∃ css,css.length=l.length∧Sep g T w (Q8o E l css none::N9 G q (K3 (Z0d E.sz) e v css)):=by
  obtain⟨F,hF,hn⟩:=hS.getA hi;obtain⟨css,gs,hg1,hg2⟩:=hF;have hlen:css.length=l.length:=(hg1.1 1 (by simp [K6]):(Q8o E l css none).P T w (gs 1)).1
  -- the rows that are told may be another list: take them out of the assertion at once
  obtain⟨h1,h2,h3,h4,fs,h5,h6⟩:=hS;have hq:q < K6 G:=Nat.le_of_ble_eq_true hi.lt;have hP:=h5.1 q hq;rw [hi.at_] at hP;obtain⟨css,hP⟩:=hP
  have hS' : Sep g T w (N9 G q (Y5 [K3 (Z0d E.sz) e v css,Q8o E l css none])):=by
    refine⟨h1,h2,h3,h4,fs,⟨fun i hil => ?_,fun i j k a b=>h5.2 i j k (by rwa [M3] at a) (by rwa [M3] at b)⟩,fun i k a=>h6 i k (by rwa [M3] at a)⟩;rw [M3] at hil;rw [Z0x G q i _ hq]
    by_cases hiq:i=q
    · rw [if_pos hiq,hiq]; exact hP
    · rw [if_neg hiq]; exact h5.1 i hil
  obtain⟨gs,hg1,hg2⟩:=hP;have hlen:css.length=l.length:=(hg1.1 1 (by simp [K6]):(Q8o E l css none).P T w (gs 1)).1;have hA:AtR (N9 G q (Y5 [K3 (Z0d E.sz) e v css,Q8o E l css none])) q (Y5 [K3 (Z0d E.sz) e v css,Q8o E l css none]):=⟨by rw [M3]; exact hi.lt,by rw [Z0x G q q _ hq,if_pos rfl]⟩;have:=hS'.spl hA
  have hss : ∀(L:List Y8) (i:Nat) (A B:Y8),N9 (N9 L i A) i B=N9 L i B:=by
    intro L
    induction L with
    | nil=>intros; rfl
    | cons X L ih=>intro i A B; cases i with
      | zero=>rfl
      | succ i=>simp [N9,ih]
  rw [hss] at this;exact⟨css,hlen,this⟩
theorem Q5w : ∀(L:List Y8) (i:Nat) (A B:Y8),N9 (N9 L i A) i B=N9 L i B:=by
  intro L
  induction L with
  | nil=>intros; rfl
  | cons X L ih=>intro i A B; cases i with
    | zero=>rfl
    | succ i=>simp [N9,ih]
theorem AtR.set {A B:Y8} (hi:AtR G q A):AtR (N9 G q B) q B:=⟨by rw [M3]; exact hi.lt,by rw [Z0x G q q _ (Nat.le_of_ble_eq_true hi.lt),if_pos rfl]⟩
theorem AtR.succ {A B:Y8} (hi:AtR G q A):AtR (B::G) (q+1) A:=⟨by have:=Nat.le_of_ble_eq_true hi.lt; simp [K6]; omega,hi.at_⟩
theorem Sep.nclose {css:List (List Value)} (hS:Sep g T w (Q8o E l css none::G)) (hi:AtR G q (K3 (Z0d E.sz) e v css)):Sep g T w (N9 G q (Z0p E e v l)):=by
  have h:=hS.mrg hi
  have:=h.imp q (hi.set).lt (B:=Z0p E e v l) fun F hF=>by
    rw [hi.set.at_] at hF;exact⟨css,hF⟩
  rwa [Q5w] at this
theorem els_take {css:List (List Value)} {i:Nat} {u : α} {cs:List Value} (hu:l[i]? = some u) (hc:css[i]? = some cs) {F:Nat→Prop} (h:(Q8o E l css none).P T w F):(Y5 [Q8o E l css (some i),E.A u cs]).P T w F:=by
  obtain⟨h0,fs,h1,h2,h3,h4⟩:=h;refine⟨fun j=>match j with | 0=>fun k => ∃ m,m ≠ i∧fs m k | _=>fs i,⟨fun j hj => ?_,fun a b k ha hb h5 h6 => ?_⟩,fun k => ?_⟩
  · have hj' : j < 2:=hj
    match j,hj' with
    | 0,_ =>
      refine⟨h0,fun m k=>m ≠ i∧fs m k,fun m x c hm hx hcc => ?_,fun a b k ha hb=>h2 a b k ha.2 hb.2,fun m k hm=>⟨fun h=>hm.1 (Option.some.inj h).symm,(h3 m k hm.2).2⟩,fun k=>Iff.rfl⟩;have hm' : m ≠ i:=fun h=>hm (by rw [h]);have:=h1 m x c (by simp) hx hcc;have e:(fun k=>m ≠ i∧fs m k)=fs m:=by funext k; simp [hm']
      show(E.A x c).P T w (fun k=>m ≠ i∧fs m k);rw [e]; exact this
    | 1,_=>exact h1 i u cs (by simp) hu hc
  · have ha' : a < 2:=ha;have hb' : b < 2:=hb
    match a,ha',b,hb',h5,h6 with
    | 0,_,0,_,_,_=>rfl
    | 1,_,1,_,_,_=>rfl
    | 0,_,1,_,⟨m,hm,hk⟩,h6=>exact absurd (h2 m i k hk h6) hm
    | 1,_,0,_,h5,⟨m,hm,hk⟩=>exact absurd (h2 m i k hk h5) hm
  · refine(h4 k).trans ⟨fun⟨m,hm⟩ => ?_,fun⟨j,hj,hk⟩ => ?_⟩
    · by_cases hmi:m=i
      · exact⟨1,by simp [K6],hmi ▸ hm⟩
      · exact⟨0,by simp [K6],m,hmi,hm⟩
    · have hj' : j < 2:=hj
      match j,hj',hk with
      | 0,_,⟨m,_,hk⟩=>exact⟨m,hk⟩
      | 1,_,hk=>exact⟨i,hk⟩
theorem els_put {css:List (List Value)} {i:Nat} {u : α} {cs:List Value} (hil:i < l.length) {F:Nat→Prop} (h:(Y5 [Q8o E l css (some i),E.A u cs]).P T w F):(Q8o E (l.set i u) (css.set i cs) none).P T w F:=by
  obtain⟨gs,g1,g2⟩:=h;obtain⟨h0,fs,h1,h2,h3,h4⟩:(Q8o E l css (some i)).P T w (gs 0):=g1.1 0 (by simp [K6]);have hE:(E.A u cs).P T w (gs 1):=g1.1 1 (by simp [K6])
  have hd : ∀ k,gs 0 k→gs 1 k→False:=fun k a b=>by
    have:=g1.2 0 1 k (by simp [K6]) (by simp [K6]) a b;omega
  refine⟨by simp [h0],fun m=>if m=i then gs 1 else fs m,fun m x c _ hx hcc => ?_,fun a b k ha hb => ?_,fun m k hm => ?_,fun k => ?_⟩
  · dsimp only
    by_cases hmi:m=i
    · subst hmi;rw [if_pos rfl];rw [List.getElem?_set_self hil] at hx;rw [List.getElem?_set_self (by omega)] at hcc;cases hx; cases hcc; exact hE
    · rw [if_neg hmi];rw [List.getElem?_set_ne (fun h=>hmi h.symm)] at hx hcc;exact h1 m x c (fun h=>hmi (Option.some.inj h).symm) hx hcc
  · by_cases hai:a=i
    · by_cases hbi:b=i
      · rw [hai,hbi]
      · simp only [if_pos hai,if_neg hbi] at ha hb
        exact(hd k ((h4 k).2 ⟨b,hb⟩) ha).elim
    · by_cases hbi:b=i
      · simp only [if_neg hai,if_pos hbi] at ha hb
        exact(hd k ((h4 k).2 ⟨a,ha⟩) hb).elim
      · simp only [if_neg hai,if_neg hbi] at ha hb
        exact h2 a b k ha hb
  · refine⟨by simp,?_⟩;rw [List.length_set]
    by_cases hmi:m=i
    · omega
    · simp only [if_neg hmi] at hm
      exact(h3 m k hm).2
  · refine(g2 k).trans ⟨fun⟨j,hj,hk⟩ => ?_,fun⟨m,hm⟩ => ?_⟩
    · have hj' : j < 2:=hj
      match j,hj',hk with
      | 0,_,hk =>
        obtain⟨m,hm⟩:=(h4 k).1 hk;have hmi:m ≠ i:=fun h=>(h3 m k hm).1 (by rw [h]);exact⟨m,by simp only [if_neg hmi]; exact hm⟩
      | 1,_,hk=>exact⟨i,by simp only []; exact hk⟩
    · by_cases hmi:m=i
      · simp only [if_pos hmi] at hm
        exact⟨1,by simp [K6],hm⟩
      · simp only [if_neg hmi] at hm
        exact⟨0,by simp [K6],(h4 k).2 ⟨m,hm⟩⟩
theorem els_app {css:List (List Value)} {u : α} {cs:List Value} {F:Nat→Prop} (h:(Y5 [Q8o E l css none,E.A u cs]).P T w F):(Q8o E (l ++ [u]) (css ++ [cs]) none).P T w F:=by
  obtain⟨gs,g1,g2⟩:=h;obtain⟨h0,fs,h1,h2,h3,h4⟩:(Q8o E l css none).P T w (gs 0):=g1.1 0 (by simp [K6]);have hE:(E.A u cs).P T w (gs 1):=g1.1 1 (by simp [K6])
  have hd : ∀ k,gs 0 k→gs 1 k→False:=fun k a b=>by
    have:=g1.2 0 1 k (by simp [K6]) (by simp [K6]) a b;omega
  refine⟨by simp [h0],fun m=>if m=l.length then gs 1 else fs m,fun m x c _ hx hcc => ?_,fun a b k ha hb => ?_,fun m k hm => ?_,fun k => ?_⟩
  · dsimp only
    by_cases hmi:m=l.length
    · subst hmi;rw [if_pos rfl];rw [List.getElem?_append_right (Nat.le_refl _),Nat.sub_self] at hx;rw [List.getElem?_append_right (by omega),h0,Nat.sub_self] at hcc;cases hx; cases hcc; exact hE
    · rw [if_neg hmi]
      have hml:m < l.length:=by
        rcases Nat.lt_or_ge m (l ++ [u]).length with h | h
        · simp at h; omega
        · rw [List.getElem?_eq_none h] at hx; cases hx
      rw [List.getElem?_append_left hml] at hx;rw [List.getElem?_append_left (by omega)] at hcc;exact h1 m x c (by simp) hx hcc
  · by_cases hai:a=l.length
    · by_cases hbi:b=l.length
      · rw [hai,hbi]
      · simp only [if_pos hai,if_neg hbi] at ha hb
        exact(hd k ((h4 k).2 ⟨b,hb⟩) ha).elim
    · by_cases hbi:b=l.length
      · simp only [if_neg hai,if_pos hbi] at ha hb
        exact(hd k ((h4 k).2 ⟨a,ha⟩) hb).elim
      · simp only [if_neg hai,if_neg hbi] at ha hb
        exact h2 a b k ha hb
  · refine⟨by simp,?_⟩;rw [List.length_append]
    by_cases hmi:m=l.length
    · simp; omega
    · simp only [if_neg hmi] at hm
      have:=(h3 m k hm).2;omega
  · refine(g2 k).trans ⟨fun⟨j,hj,hk⟩ => ?_,fun⟨m,hm⟩ => ?_⟩
    · have hj' : j < 2:=hj
      match j,hj',hk with
      | 0,_,hk =>
        obtain⟨m,hm⟩:=(h4 k).1 hk;have hmi:m ≠ l.length:=by have:=(h3 m k hm).2; omega
        exact⟨m,by simp only [if_neg hmi]; exact hm⟩
      | 1,_,hk=>exact⟨l.length,by simp only []; exact hk⟩
    · by_cases hmi:m=l.length
      · simp only [if_pos hmi] at hm
        exact⟨1,by simp [K6],hm⟩
      · simp only [if_neg hmi] at hm
        exact⟨0,by simp [K6],(h4 k).2 ⟨m,hm⟩⟩

theorem Sep.nfocus {i:Int} {u : α} (hS:Sep g T w G) (hi:AtR G q (Z0p E e v l)) (hu:idx l i=some u) :
    ∃ css cs,Sep g T w (E.A u cs::Q8o E l css (some i.toNat)::N9 G q (Y2h (Z0d E.sz) e v css i.toNat cs)):=by
  obtain⟨h0,h1,h2⟩:=Q0u hu;obtain⟨css,hlen,h⟩:=hS.nopen hi;have hic:i.toNat < css.length:=by omega
  have hix:idx css i=some css[i.toNat]:=by
    unfold idx;rw [if_pos h0];exact List.getElem?_eq_getElem hic
  obtain⟨cs,hr,h⟩:=h.focus (q:=q+1) (hi.set.succ) hix;have h:=Sep.imp (B:=Y5 [Q8o E l css (some i.toNat),E.A u css[i.toNat]]) h 0 (by simp [N9,K6]) fun F hF=>els_take h2 (List.getElem?_eq_getElem hic) hF;have h:Sep g T w (E.A u css[i.toNat]::_):=h.spl (q:=0) ⟨by simp [N9,K6],rfl⟩;refine⟨css,css[i.toNat],?_⟩;have hcs:cs=css[i.toNat]:=hr.1;subst hcs;have e:N9 (N9 G q (K3 (Z0d E.sz) e v css)) q (Y2h (Z0d E.sz) e v css i.toNat css[i.toNat])=N9 G q (Y2h (Z0d E.sz) e v css i.toNat css[i.toNat]):=Q5w _ _ _ _;rw [← e];exact h
theorem Sep.nunfocus {i:Nat} {u : α} {css:List (List Value)} {cs:List Value} (hS:Sep g T w (E.A u cs::Q8o E l css (some i)::G)) (hi:AtR G q (Y2h (Z0d E.sz) e v css i cs)) (hil:i < l.length):Sep g T w (N9 G q (Z0p E e v (l.set i u))):=by
  obtain⟨F,hF,_⟩:=hS.get 0 (by simp [K6]);have hlen:=E.len hF;have hone:=E.one hF;have h:=hS.unfocus (q:=q+2) (u:=cs) hi.succ.succ ⟨rfl,hlen,hone⟩;have h:Sep g T w (E.A u cs::Q8o E l css (some i)::N9 G q (K3 (Z0d E.sz) e v (css.set i cs))):=h;have h:=h.mrg (q:=0) (A:=Q8o E l css (some i)) ⟨by simp [K6],rfl⟩;have h:=Sep.imp (B:=Q8o E (l.set i u) (css.set i cs) none) h 0 (by simp [N9,K6]) fun F hF=>els_put hil hF;have h:Sep g T w (Q8o E (l.set i u) (css.set i cs) none::N9 G q (K3 (Z0d E.sz) e v (css.set i cs))):=h;have h:=h.nclose (q:=q) hi.set
  rwa [Q5w] at h
theorem Sep.nslv (hS:Sep g T w G) (hi:AtR G q (Z0p E e v l)) : ∃ css:List (List Value),css.length=l.length∧SlV (Z0d E.sz) T w v css:=by
  obtain⟨css,hlen,h⟩:=hS.nopen hi;obtain⟨F,hF,_⟩:=h.getA hi.set.succ;exact⟨css,hlen,hF.1.v⟩
theorem Sep.nhd {i:Int} {u : α} {sz:Nat} (hS:Sep g T w G) (hi:AtR G q (Z0p E e v l)) (hu:idx l i=some u) (hz:E.sz=sz) : ∃ b off k cap,v = .slice (some ⟨b,k,none⟩) l.length cap∧0≤i∧i < l.length∧off=k+i.toNat * sz:=by
  subst hz;obtain⟨h0,h1,h2⟩:=Q0u hu;obtain⟨css,hlen,h⟩:=hS.nslv hi;obtain⟨a,cap,hv,_,_,h7⟩:=h
  rcases h7 with h7 | ⟨b,off,rfl,_⟩
  · rw [h7] at hlen; simp at hlen; omega
  · exact⟨b,_,off,cap,by rw [hv,hlen],h0,h1,rfl⟩
theorem Sep.nunfocus0 {i:Int} {u : α} {css:List (List Value)} {cs:List Value} (hS:Sep g T w (E.A u cs::Q8o E l css (some i.toNat)::G)) (hi:AtR G q (Y2h (Z0d E.sz) e v css i.toNat cs)) (hu:idx l i=some u):Sep g T w (N9 G q (Z0p E e v l)):=by
  obtain⟨h0,h1,h2⟩:=Q0u hu;have h:=hS.nunfocus hi (by omega)
  have e:l.set i.toNat u=l:=by
    apply List.ext_getElem?;intro j
    by_cases hj:i.toNat=j
    · subst hj; rw [List.getElem?_set_self (by omega),h2]
    · rw [List.getElem?_set_ne hj]
  rwa [e] at h
theorem idx_ltn {i:Int} {u : α} (hu:idx l i=some u):i.toNat < l.length:=by
  obtain⟨h0,h1,_⟩:=Q0u hu;omega
end

theorem X1w {A B:Y8} {T:Nat→Prop} {w:World} {F:Nat→Prop} (h:(Y5 [A,B]).P T w F):(Y5 [B,A]).P T w F:=by
  obtain⟨gs,g1,g2⟩:=h;refine⟨fun i=>gs (1 - i),⟨fun i hi => ?_,fun i j k hi hj a b => ?_⟩,fun k=>(g2 k).trans ⟨fun⟨i,hi,hk⟩ => ?_,fun⟨i,hi,hk⟩ => ?_⟩⟩
  · have hi' : i < 2:=hi
    match i,hi' with
    | 0,_=>exact g1.1 1 (by simp [K6])
    | 1,_=>exact g1.1 0 (by simp [K6])
  · have hi' : i < 2:=hi;have hj' : j < 2:=hj;have:=g1.2 (1 - i) (1 - j) k (by simp [K6]; omega) (by simp [K6]; omega) a b;omega
  · have hi' : i < 2:=hi;refine⟨1 - i,by simp [K6]; omega,?_⟩;show gs (1 - (1 - i)) k;rw [show 1 - (1 - i)=i by omega]; exact hk
  · exact⟨1 - i,by simp [K6]; omega,hk⟩
section
variable {P:Program} {n:NF} {J:Nat→Value} {L:List (Nat×Value)} {w:World} {KK:Act→World→Prop} {Q:Exit→Act→World→Prop} {g:World} {T:Nat→Prop} {G:List Y8} {q d:Nat} {x y:Operand} {t ty:TypeId} {pos:String} {aft:Array Edge} {v:Value}
theorem apN {α : Type} {E:En α} {e:TypeId} {l:List α} {u : α} {cs:List Value} {v2:Value} (hS:Sep g T w (E.A u cs::G)) (hi:AtR G q (Z0p E e v l)) (hx:ev n J L x=v) (hy:ev n J L y=v2) (h2:SlV (Z0d E.sz) T w v2 [cs])
    (ht:P.underlying t=some (.slice e)) (he:Q0j P e E.sz) (hroom:l.length+1≤8589934592)
    (k : ∀ w' a m c,Im T w T w' → Sep g T w' (N9 G q (Z0p E e (.slice a m c) (l ++ [u])))→KK (env n J ((d,.slice a m c)::L)) w') :
    Oper.wp P ⟨some d,.call ⟨.builtin .append,#[x,y],#[t,t]⟩,ty,pos,aft,none⟩ (env n J L) w KK Q:=by
  obtain⟨css,hlen,h⟩:=hS.nopen (q:=q+1) hi.succ;have h:Sep g T w (Q8o E l css none::E.A u cs::N9 G q (K3 (Z0d E.sz) e v css)):=h;refine apO (q:=q+2) h hi.set.succ.succ hx hy h2 ht he (by simp; omega) fun w' a m c him h=>k w' a m c him ?_;have h:Sep g T w' (Q8o E l css none::E.A u cs::N9 (N9 G q (K3 (Z0d E.sz) e v css)) q (K3 (Z0d E.sz) e (.slice a m c) (css ++ [cs]))):=h;rw [Q5w] at h;have h:=h.mrg (q:=0) (A:=E.A u cs) ⟨by simp [K6],rfl⟩;have h:=Sep.imp (B:=Q8o E (l ++ [u]) (css ++ [cs]) none) h 0 (by simp [N9,K6]) fun F hF=>els_app (X1w hF);have h:Sep g T w' (Q8o E (l ++ [u]) (css ++ [cs]) none::N9 G q (K3 (Z0d E.sz) e (.slice a m c) (css ++ [cs]))):=h;have h:=h.nclose (q:=q) hi.set
  rwa [Q5w] at h
theorem r_lnN {α : Type} {E:En α} {e:TypeId} {l:List α} (hS:Sep g T w G) (hi:AtR G q (Z0p E e v l)) (hx:ev n J L x=v) (ht:P.underlying t=some (.slice e)) {w1:World} :
    (execOp (ev n J L) ⟨some d,.call ⟨.builtin .len,#[x],#[t]⟩,ty,pos,aft,none⟩).run P w1 = .ok (.value (.int .i64 (l.length:Int))) w1:=by
  obtain⟨css,hlen,h⟩:=hS.nslv hi;rw [← hlen];exact Y8x hx h ht
end

def IpR (pv v:Value) (sz:Nat) (m:Int):Prop:=(m < 0→pv = .pointer none)∧(0≤m → ∀ b k n cap,v = .slice (some ⟨b,k,none⟩) n cap→pv = .pointer (some ⟨b,k+m.toNat * sz,none⟩))
theorem IpR.at {pv v:Value} {sz b k n cap:Nat} {m:Int} (h:IpR pv v sz m) (h0:0≤m) (hv:v = .slice (some ⟨b,k,none⟩) n cap):pv = .pointer (some ⟨b,k+m.toNat * sz,none⟩):=h.2 h0 b k n cap hv
end Go.Proofs.YtfffghclkmbopaaGreat
