/- Regions that draw their order and write: one walk, in an order of our own choice, serves every order. It holds for every program. -/
import Derived.Test.YtecakklofhfphaaGreatDoorKWalk
import Derived.Test.YtecakklofhfphaaGreatDoorKStr
import Derived.Deep.RegionHeld3
import Derived.OrdersIn
set_option linter.unusedVariables false
namespace Go.Proofs.YtecakklofhfphaaGreatDoor

inductive Pre (l:List Oper):Nat→Nat→Prop where
  | base {j:Nat} {o:Oper} {e:Edge} (h:l[j]? = some o) (he:e ∈ o.after) (hb:Region.binds .any e=true):Pre l e.on j
  | step {j r:Nat} {o:Oper} {e:Edge} (h:l[j]? = some o) (he:e ∈ o.after) (hb:Region.binds .any e=true) (hr:Pre l r e.on):Pre l r j

def ancM (acc:List Nat) (m:Nat) (e:Edge):Nat:=if Region.binds .any e then m ||| (2 ^ e.on) ||| acc.getD e.on 0 else m
def Z3j (acc:List Nat) (o:Oper):List Nat:=acc ++ [o.after.toList.foldl (ancM acc) 0]
def C1 (l:List Oper):List Nat:=l.foldl Z3j []

theorem ancM_ok {l:List Oper} {acc:List Nat} {j:Nat} {o:Oper} (ho:l[j]? = some o) (hacc : ∀ i r,(acc.getD i 0).testBit r=true→Pre l r i) :
    ∀(es:List Edge) (m:Nat),(∀ e ∈ es,e ∈ o.after)→(∀ r,m.testBit r=true→Pre l r j) → ∀ r,(es.foldl (ancM acc) m).testBit r=true→Pre l r j:=by
  intro es
  induction es with
  | nil=>intro m _ hm; exact hm
  | cons e es ih =>
    intro m he hm
    refine ih _ (fun e' h' => he e' (by simp [h'])) fun r hr => ?_
    unfold ancM at hr
    split at hr
    · rename_i hb
      rw [Nat.testBit_or,Nat.testBit_or,Nat.testBit_two_pow] at hr
      simp only [Bool.or_eq_true,decide_eq_true_eq] at hr
      rcases hr with (hr | hr) | hr
      · exact hm r hr
      · exact hr ▸ .base ho (he e (by simp)) hb
      · exact .step ho (he e (by simp)) hb (hacc _ _ hr)
    · exact hm r hr

theorem Q0o (l:List Oper) : ∀ j r,((C1 l).getD j 0).testBit r=true→Pre l r j:=by
  have key : ∀(l2 l1:List Oper) (acc:List Nat),l=l1++l2→acc.length=l1.length→(∀ i r,(acc.getD i 0).testBit r=true→Pre l r i) →
      ∀ i r,((l2.foldl Z3j acc).getD i 0).testBit r=true→Pre l r i:=by
    intro l2
    induction l2 with
    | nil=>intro l1 acc _ _ h; exact h
    | cons o l2 ih =>
      intro l1 acc hl hlen h
      refine ih (l1 ++ [o]) (Z3j acc o) (by simp [hl]) (by simp [Z3j,hlen]) fun i r hr => ?_
      have ho:l[acc.length]? = some o:=by rw [hl,hlen]; simp
      unfold Z3j at hr
      rcases Nat.lt_trichotomy i acc.length with hi | hi | hi
      · rw [List.getD_eq_getElem?_getD,List.getElem?_append_left hi,← List.getD_eq_getElem?_getD] at hr
        exact h i r hr
      · subst hi
        rw [List.getD_eq_getElem?_getD,List.getElem?_append_right (Nat.le_refl _)] at hr
        simp at hr
        exact ancM_ok ho h o.after.toList 0 (fun e he=>by simpa using he) (fun r hr=>by simp at hr) r (by simpa using hr)
      · rw [List.getD_eq_getElem?_getD,List.getElem?_eq_none (by simp; omega)] at hr
        simp at hr
  exact key l [] [] rfl rfl (fun i r h=>by simp at h)

section
variable {P:Program} {l:List Oper} {Q:Exit→Act→World→Prop} {fl:List Nat}

def F9 (l:List Oper) (i:Nat):Option Tmp:=(l[i]?).bind (·.dst)
def A5 (l:List Oper) (a:Act) (p:Nat×Value):Act:=a.put (F9 l p.1) p.2
def puts (l:List Oper) (D:List (Nat×Value)) (a:Act):Act:=D.foldl (A5 l) a
def B4 (l:List Oper) (o:Oper) (a:Act):Bool:=Region.wanted o (yielded l.toArray a.tmps)

def O1 (P:Program) (l:List Oper) (pd:List (Nat×Value)) (a:Act) (w:World):Prop := ∀ p ∈ pd,∀ o,l[p.1]? = some o→(execOp a.eval o).run P w = .ok (.value p.2) w

def K6 (P:Program) (l:List Oper) (fl:List Nat) (Q:Exit→Act→World→Prop):List (Nat×Value)→List Nat→Act→World→Prop
  | _,[],a,w=>Q .normal a w
  | pd,i::is,a,w => ∃ o,l[i]? = some o∧match B4 l o a with
    | true=>match fl.getD i 2 with
      | 0 => ∃ v,(∀ w,(execOp a.eval o).run P w = .ok (.value v) w)∧K6 P l fl Q pd is (a.put o.dst v) w
      | 1 => ∃ v,(execOp a.eval o).run P w = .ok (.value v) w∧K6 P l fl Q ((i,v)::pd) is (a.put o.dst v) w
      | _=>o.wpIn Fence.wide 0 P a w (fun a' w' => O1 P l (pd.filter fun p => !((C1 l).getD i 0).testBit p.1) a' w' ∧ K6 P l fl Q (pd.filter fun p => !((C1 l).getD i 0).testBit p.1) is a' w') Q
    | false=>K6 P l fl Q pd is (a.put o.dst undef) w

def nzB (fl:List Nat) (x:Nat):Bool:=match fl.getD x 2 with
  | 0=>false
  | 1=>false
  | _=>true
def pairB (l:List Oper) (an:List Nat) (x y:Nat):Bool := !Nat.beq x y&&match l[x]?,l[y]? with
  | some ox,some oy=>ox.after.all (fun e => !Region.binds .any e || !Nat.beq e.on y)&&((an.getD y 0).testBit x || ox.apart l.toArray oy)
  | _,_=>false
def clobB (l:List Oper) (x y:Nat):Bool:=match l[x]?,l[y]? with
  | some ox,some oy=>match oy.dst with
    | some d=>(ox.looksAt l.toArray).contains d
    | none=>false
  | _,_=>true
def selfB (l:List Oper) (x:Nat):Bool:=match l[x]? with
  | some ox=>ox.after.all fun e => !Region.binds .any e || !Nat.beq e.on x
  | none=>false
def Z6b (l:List Oper) (fl an:List Nat):List Nat→Bool
  | []=>true
  | x::r=>r.all (fun y=>pairB l an x y&&(!nzB fl x || (an.getD y 0).testBit x)) &&
      ((!clobB l x x&&r.all (fun y => !clobB l x y)) || !Nat.beq (fl.getD x 2) 1 || r.all (fun z => !nzB fl z || (an.getD z 0).testBit x))&&selfB l x&&Z6b l fl an r
def Z0i (l:List Oper):Bool:=l.all fun o=>o.after.all fun e => !Region.binds .any e || Nat.blt e.on l.length
def serB (l:List Oper) (fl:List Nat) (ord:List Nat):Bool :=
  Nat.beq ord.length l.length&&ord.all (fun i=>Nat.blt i l.length)&&(List.range l.length).all (fun i=>ord.contains i)&&Region.noSelect l.toArray&&Z0i l&&Z6b l fl (C1 l) ord

structure Z8x (l:List Oper) (fl:List Nat) (x y:Nat):Prop where
  ne:x ≠ y
  no : ∀ o,l[x]? = some o → ∀ e ∈ o.after,Region.binds .any e=true→e.on ≠ y
  ap:Pre l x y ∨ ∀ ox oy,l[x]? = some ox→l[y]? = some oy→ox.apart l.toArray oy=true
  nz:nzB fl x=true→Pre l x y

def Good (l:List Oper) (fl:List Nat):List Nat→Prop
  | []=>True
  | x::r=>(∀ y ∈ r,Z8x l fl x y)∧(fl.getD x 2=1→(∀ y ∈ x::r,clobB l x y=false) ∨ (∀ z ∈ r,nzB fl z=true→Pre l x z))∧(∀ o,l[x]? = some o → ∀ e ∈ o.after,Region.binds .any e=true→e.on ≠ x)∧Good l fl r

theorem good_of : ∀(ord:List Nat),Z6b l fl (C1 l) ord=true→Good l fl ord:=by
  intro ord
  induction ord with
  | nil=>exact fun _=>trivial
  | cons x r ih =>
    intro h
    simp only [Z6b,Bool.and_eq_true,Bool.or_eq_true,List.all_eq_true,Bool.not_eq_true'] at h
    obtain⟨⟨⟨h1,h2⟩,h4⟩,h3⟩:=h
    refine⟨fun y hy => ?_,fun h1l => ?_,?_,ih h3⟩
    · obtain⟨ha,hb⟩:=h1 y hy
      unfold pairB at ha
      simp only [Bool.and_eq_true,Bool.not_eq_true'] at ha
      obtain⟨hne,hm⟩:=ha
      split at hm
      · rename_i ox oy hx hy'
        simp only [Bool.and_eq_true,Bool.or_eq_true] at hm
        obtain⟨hm1,hm2⟩:=hm
        refine⟨fun e=>by subst e; simp at hne,fun o ho e he hb' => ?_,?_,fun hn => ?_⟩
        · rw [hx] at ho
          cases ho
          rw [Array.all_eq_true_iff_forall_mem] at hm1
          have:=hm1 e he
          rw [hb'] at this
          intro hh
          rw [hh] at this
          simp at this
        · rcases hm2 with hm2 | hm2
          · exact .inl (Q0o l _ _ hm2)
          · refine .inr fun ox' oy' hx' hy2 => ?_
            rw [hx] at hx'
            rw [hy'] at hy2
            cases hx'
            cases hy2
            exact hm2
        · rcases hb with hb | hb
          · rw [hb] at hn; cases hn
          · exact Q0o l _ _ hb
      · cases hm
    · rcases h2 with (h2 | h2) | h2
      · refine .inl fun y hy => ?_
        rcases List.mem_cons.1 hy with rfl | hy
        · exact h2.1
        · exact h2.2 y hy
      · rw [h1l] at h2; cases h2
      · refine .inr fun z hz hn => ?_
        rcases h2 z hz with h | h
        · rw [h] at hn; cases hn
        · exact Q0o l _ _ h
    · intro o ho e he hb hh
      unfold selfB at h4
      rw [ho] at h4
      simp only at h4
      rw [Array.all_eq_true_iff_forall_mem] at h4
      have:=h4 e he
      rw [hb,hh] at this
      simp at this
theorem Good.sub {s:List Nat} {ord:List Nat} (hs:s.Sublist ord) (h:Good l fl ord):Good l fl s:=by
  induction hs with
  | slnil=>trivial
  | cons a _ ih=>exact ih h.2.2.2
  | cons_cons a hs ih =>
    refine⟨fun y hy=>h.1 y (hs.subset hy),fun h1 => ?_,h.2.2.1,ih h.2.2.2⟩
    rcases h.2.1 h1 with h2 | h2
    · exact .inl fun y hy=>h2 y (by
        rcases List.mem_cons.1 hy with rfl | hy
        · simp
        · exact List.mem_cons_of_mem _ (hs.subset hy))
    · exact .inr fun y hy=>h2 y (hs.subset hy)
theorem Good.pair {A B:List Nat} {x:Nat} (h:Good l fl (A++x::B)):(∀ y ∈ A,Z8x l fl y x)∧(∀ y ∈ B,Z8x l fl x y):=by
  induction A with
  | nil=>exact⟨fun y hy=>by simp at hy,h.1⟩
  | cons a A ih =>
    have:=ih h.2.2.2
    exact⟨fun y hy=>by
      rcases List.mem_cons.1 hy with rfl | hy
      · exact h.1 x (by simp)
      · exact this.1 y hy,this.2⟩

/-! ### Soundness -/
theorem Q0v {D:List (Nat×Value)} {o:Oper} (hs : ∀ cs b,o.op ≠ .select cs b) (h : ∀ p ∈ D,∀ d,F9 l p.1=some d→d ∉ o.looksAt l.toArray) (a:Act) :
    execOp (puts l D a).eval o=execOp a.eval o∧B4 l o (puts l D a)=B4 l o a:=by
  induction D generalizing a with
  | nil=>exact⟨rfl,rfl⟩
  | cons p D ih =>
    have h1:=ih (fun q hq=>h q (by simp [hq])) (A5 l a p)
    have h2:=h p (by simp)
    refine⟨h1.1.trans (execOp_put (ops:=l.toArray) o hs a _ _ h2),h1.2.trans (wanted_put (ops:=l.toArray) o a _ _ h2)⟩
theorem Q4m {D:List (Nat×Value)} {d:Option Tmp} (h : ∀ p ∈ D,∀ e,F9 l p.1=some e→d ≠ some e) (a:Act) (u:Value):puts l D (a.put d u)=(puts l D a).put d u:=by
  induction D generalizing a with
  | nil=>rfl
  | cons p D ih =>
    show puts l D (A5 l (a.put d u) p)=_
    have:A5 l (a.put d u) p=(A5 l a p).put d u:=Act.put_comm a u p.2 (fun e he=>fun hh=>h p (by simp) e hh he)
    rw [this,ih (fun q hq=>h q (by simp [hq]))]
    rfl
theorem Q8u {D:List (Nat×Value)} (a:Act) (ds:List Deferred):puts l D {a with defers:=ds} = {puts l D a with defers:=ds} ∧ (puts l D a).defers=a.defers:=by
  induction D generalizing a with
  | nil=>exact⟨rfl,rfl⟩
  | cons p D ih =>
    have h1:=ih (A5 l a p)
    have e:A5 l {a with defers:=ds} p = {A5 l a p with defers:=ds} := by unfold A5; cases F9 l p.1 <;> rfl
    refine⟨?_,h1.2.trans ?_⟩
    · show puts l D (A5 l {a with defers:=ds} p)=_
      rw [e,h1.1]
      rfl
    · unfold A5; cases F9 l p.1 <;> rfl

theorem wp_in {P:Program} {Q:Exit→Act→World→Prop} {o:Oper} {m:Nat} {K:Act→World→Prop} {a:Act} {w:World} (h:o.wp P a w K Q):o.wpIn Fence.wide m P a w K Q:=by
  refine⟨fun _ _=>trivial,?_⟩
  show o.uponIn _ _ _ _ _ _ ((o.semAt none a.eval).run P w)
  rw [Oper.semAt_none]
  unfold Oper.wp at h
  revert h
  generalize (execOp a.eval o).run P w=r
  intro h
  cases r with
  | ok nx w1 =>
    cases nx <;> simp only [Oper.upon] at h
    case value u=>exact h
    case skip=>exact h
    case defer u=>exact h
    case enter f args =>
      refine⟨fun h=>(by cases h),callsIn_wide.2 (h.mono ?_)⟩
      intro e w2 he
      cases e <;> exact he
    case row rw args =>
      refine⟨fun h=>(by cases h),fun c cs _ => ?_⟩
      obtain⟨v,w',hv,hs⟩:=h c cs
      exact⟨v,w',hv,stepsIn_wide.2 hs⟩
  | halt hh w1 =>
    cases hh <;> simp only [Oper.upon] at h
    exact h

theorem Z7e {D:List (Nat×Value)} {r:Oper} (hs : ∀ cs b,r.op ≠ .select cs b) (h1 : ∀ p ∈ D,∀ d,F9 l p.1=some d→d ∉ r.looksAt l.toArray) (h2 : ∀ p ∈ D,∀ d,F9 l p.1=some d→r.dst ≠ some d)
    (hQ : ∀ c a i v w,Q (.panic c) (Act.put a (F9 l i) v) w→Q (.panic c) a w) {K:Act→World→Prop} {a:Act} {w:World} (h:r.wpIn Fence.wide 0 P (puts l D a) w K Q) :
    r.wpIn Fence.wide 0 P a w (fun a' w' => (∃ u ds,a' = ({a with defers:=ds} : Act).put r.dst u)∧K (puts l D a') w') Q:=by
  have hQD : ∀ c (D:List (Nat×Value)) a w,Q (.panic c) (puts l D a) w→Q (.panic c) a w:=by
    intro c D
    induction D with
    | nil=>exact fun a w h=>h
    | cons p D ih=>exact fun a w h=>hQ c a _ _ w (ih _ w h)
  unfold Oper.wpIn at *
  refine⟨fun _ _=>trivial,?_⟩
  have h:=h.2
  change r.uponIn _ _ _ _ _ _ ((r.semAt none (puts l D a).eval).run P w) at h
  change r.uponIn _ _ _ _ _ _ ((r.semAt none a.eval).run P w)
  rw [Oper.semAt_none] at h ⊢
  rw [(Q0v hs h1 a).1] at h
  generalize (execOp a.eval r).run P w=x at *
  have hp : ∀ u,puts l D (a.put r.dst u)=(puts l D a).put r.dst u:=fun u=>Q4m (fun p hp e he=>h2 p hp e he) a u
  cases x with
  | ok n w' =>
    cases n <;> simp only [Oper.uponIn] at h ⊢
    case value u=>exact⟨⟨u,a.defers,rfl⟩,by rw [hp]; exact h⟩
    case skip=>exact⟨⟨undef,a.defers,rfl⟩,by rw [hp]; exact h⟩
    case defer d =>
      refine⟨⟨undef,_,rfl⟩,?_⟩
      have e1:=Q4m (D:=D) (d:=r.dst) (fun p hp e he=>h2 p hp e he) ({a with defers:=d::a.defers} : Act) undef
      rw [e1,(Q8u a _).1]
      rw [(Q8u (l:=l) (D:=D) a []).2] at h
      exact h
    case enter f args =>
      refine⟨h.1,CallsIn.mono h.2 fun e w'' he => ?_⟩
      cases e with
      | returned u=>exact⟨⟨u,a.defers,rfl⟩,by rw [hp]; exact he⟩
      | panicked c=>exact hQD _ _ _ _ he
      | outgrown=>exact he
    case row row args=>exact⟨h.1,RowsIn.mono h.2 fun u w'' he=>⟨⟨u,a.defers,rfl⟩,by rw [hp]; exact he⟩⟩
    case round l f tmps assign body =>
      refine⟨h.1,RoundIn.mono h.2 fun e w'' he => ?_⟩
      cases e with
      | returned u=>exact⟨⟨u,a.defers,rfl⟩,by rw [hp]; exact he⟩
      | panicked c=>exact hQD _ _ _ _ he
      | outgrown=>exact he
  | halt x w' =>
    cases x <;> simp only [Oper.uponIn] at h ⊢
    case panic u=>exact hQD _ _ _ _ h

def Yl (P:Program) (l:List Oper) (fl:List Nat) (pd:List (Nat×Value)) (p:Nat×Value) (a:Act) (w:World):Prop := ∃ o,l[p.1]? = some o ∧
  ((B4 l o a=false∧p.2=undef) ∨ (B4 l o a=true∧(execOp a.eval o).run P w = .ok (.value p.2) w∧((fl.getD p.1 2=0 ∧ ∀ w,(execOp a.eval o).run P w = .ok (.value p.2) w) ∨ (fl.getD p.1 2=1∧p ∈ pd))))
def L7 (P:Program) (l:List Oper) (fl:List Nat) (pd:List (Nat×Value)):List (Nat×Value)→Act→World→Prop
  | [],_,_=>True
  | p::D,a,w=>Yl P l fl pd p a w∧L7 P l fl pd D (A5 l a p) w

theorem Yl.more {pd pd' : List (Nat×Value)} {p:Nat×Value} {a:Act} {w:World} (h:Yl P l fl pd p a w) (hs : ∀ q ∈ pd,q ∈ pd'):Yl P l fl pd' p a w:=by
  obtain⟨o,ho,h | ⟨h1,h2,h3 | ⟨h4,h5⟩⟩⟩:=h
  · exact⟨o,ho,.inl h⟩
  · exact⟨o,ho,.inr ⟨h1,h2,.inl h3⟩⟩
  · exact⟨o,ho,.inr ⟨h1,h2,.inr ⟨h4,hs _ h5⟩⟩⟩
theorem L7.more {pd pd' : List (Nat×Value)} {D:List (Nat×Value)} {a:Act} {w:World} (h:L7 P l fl pd D a w) (hs : ∀ q ∈ pd,q ∈ pd'):L7 P l fl pd' D a w:=by
  induction D generalizing a with
  | nil=>trivial
  | cons q D ih=>exact⟨h.1.more hs,ih h.2⟩
theorem L7.snoc {pd D:List (Nat×Value)} {p:Nat×Value} {a:Act} {w:World} (h:L7 P l fl pd D a w) (hy:Yl P l fl pd p (puts l D a) w):L7 P l fl pd (D ++ [p]) a w:=by
  induction D generalizing a with
  | nil=>exact⟨hy,trivial⟩
  | cons q D ih=>exact⟨h.1,ih h.2 hy⟩
theorem Q0t {D:List (Nat×Value)} {p:Nat×Value} {a:Act} : puts l (D ++ [p]) a=A5 l (puts l D a) p:=by simp [puts]

theorem Y0k : ∀(R:List Nat) (D pd:List (Nat×Value)) (a:Act) (w:World),L7 P l fl pd D a w→K6 P l fl Q pd R (puts l D a) w →
    ∃ D' pd' R',D.map (·.1)++R=D'.map (·.1)++R' ∧ L7 P l fl pd' D' a w∧K6 P l fl Q pd' R' (puts l D' a) w ∧
      (R' = [] ∨ ∃ r R'' o,R' = r::R'' ∧ l[r]? = some o∧B4 l o (puts l D' a)=true∧nzB fl r=true):=by
  intro R
  induction R with
  | nil=>exact fun D pd a w h1 h2=>⟨D,pd,[],rfl,h1,h2,.inl rfl⟩
  | cons i R ih =>
    intro D pd a w h1 h2
    have h2' := h2
    unfold K6 at h2
    obtain⟨o,ho,h⟩:=h2
    have hd : ∀ v,A5 l (puts l D a) (i,v)=(puts l D a).put o.dst v:=fun v=>by simp [A5,F9,ho]
    cases hw:B4 l o (puts l D a) with
    | false =>
      rw [hw] at h
      have h1' := h1.snoc (p:=(i,undef)) ⟨o,ho,.inl ⟨hw,rfl⟩⟩
      have:=ih (D ++ [(i,undef)]) pd a w h1' (by rw [Q0t,hd]; exact h)
      simpa using this
    | true =>
      rw [hw] at h
      by_cases h0:fl.getD i 2=0
      · rw [h0] at h
        obtain⟨v,hv,hk⟩:=h
        have h1' := h1.snoc (p:=(i,v)) ⟨o,ho,.inr ⟨hw,hv w,.inl ⟨h0,hv⟩⟩⟩
        have:=ih (D ++ [(i,v)]) pd a w h1' (by rw [Q0t,hd]; exact hk)
        simpa using this
      · by_cases h10:fl.getD i 2=1
        · rw [h10] at h
          obtain⟨v,hv,hk⟩:=h
          have h1' := (h1.more (pd' := (i,v)::pd) (fun q hq=>by simp [hq])).snoc (p:=(i,v)) ⟨o,ho,.inr ⟨hw,hv,.inr ⟨h10,by simp⟩⟩⟩
          have:=ih (D ++ [(i,v)]) ((i,v)::pd) a w h1' (by rw [Q0t,hd]; exact hk)
          simpa using this
        · refine⟨D,pd,i::R,rfl,h1,h2',.inr ⟨i,R,o,rfl,ho,hw,?_⟩⟩
          unfold nzB
          split
          · rename_i h; exact absurd h h0
          · rename_i h; exact absurd h h10
          · rfl

theorem L7.append {pd D1 D2:List (Nat×Value)} {a:Act} {w:World} (h1:L7 P l fl pd D1 a w) (h2:L7 P l fl pd D2 (puts l D1 a) w):L7 P l fl pd (D1++D2) a w:=by
  induction D1 generalizing a with
  | nil=>exact h2
  | cons q D ih=>exact⟨h1.1,ih h1.2 h2⟩
theorem L7.split {pd D1 D2:List (Nat×Value)} {a:Act} {w:World} (h:L7 P l fl pd (D1++D2) a w):L7 P l fl pd D1 a w∧L7 P l fl pd D2 (puts l D1 a) w:=by
  induction D1 generalizing a with
  | nil=>exact⟨trivial,h⟩
  | cons q D ih=>exact⟨⟨h.1,(ih h.2).1⟩,(ih h.2).2⟩
theorem L7.put {pd D:List (Nat×Value)} {a:Act} {w:World} {d:Option Tmp} {v:Value} (hs : ∀(j:Nat) (o:Oper) cs b,l[j]? = some o→o.op ≠ .select cs b) (h:L7 P l fl pd D a w)
    (h1 : ∀ p ∈ D,∀ o,l[p.1]? = some o → ∀ e,d=some e→e ∉ o.looksAt l.toArray) (h2 : ∀ p ∈ D,∀ e,F9 l p.1=some e→d ≠ some e):L7 P l fl pd D (a.put d v) w:=by
  induction D generalizing a with
  | nil=>trivial
  | cons q D ih =>
    have e1:A5 l (a.put d v) q=(A5 l a q).put d v:=Act.put_comm a v q.2 (fun e he hh=>h2 q (by simp) e hh he)
    refine⟨?_,by rw [e1]; exact ih h.2 (fun p hp=>h1 p (by simp [hp])) (fun p hp=>h2 p (by simp [hp]))⟩
    obtain⟨o,ho,hy⟩:=h.1
    have g1:=execOp_put (ops:=l.toArray) o (fun cs b=>hs _ o cs b ho) a d v (h1 q (by simp) o ho)
    have g2:=wanted_put (ops:=l.toArray) o a d v (h1 q (by simp) o ho)
    refine⟨o,ho,?_⟩
    unfold B4 at *
    rw [g1,g2]
    exact hy

theorem L7.after {pd pd2 D:List (Nat×Value)} {a:Act} {w w' : World} {d:Option Tmp} {v:Value} {ds:List Deferred} (hs : ∀(j:Nat) (o:Oper) cs b,l[j]? = some o→o.op ≠ .select cs b) (h:L7 P l fl pd D a w)
    (h1 : ∀ p ∈ D,∀ o,l[p.1]? = some o → ∀ e,d=some e→e ∉ o.looksAt l.toArray) (h2 : ∀ p ∈ D,∀ e,F9 l p.1=some e→d ≠ some e)
    (h3 : ∀ p ∈ D,p ∈ pd→p ∈ pd2) (hst:O1 P l pd2 (puts l D (({a with defers:=ds} : Act).put d v)) w')
    (hcl : ∀ D1 p D2,D=D1++p::D2→fl.getD p.1 2=1 → ∀ q ∈ p::D2,clobB l p.1 q.1=false):L7 P l fl pd2 D (({a with defers:=ds} : Act).put d v) w' := by
  induction D generalizing a with
  | nil=>trivial
  | cons q D ih =>
    have e0:A5 l ({a with defers:=ds} : Act) q = {A5 l a q with defers:=ds} := by unfold A5; cases F9 l q.1 <;> rfl
    have e1:A5 l (({a with defers:=ds} : Act).put d v) q=({A5 l a q with defers:=ds} : Act).put d v:=by
      rw [← e0]
      exact Act.put_comm _ v q.2 (fun e he hh=>h2 q (by simp) e hh he)
    have hst' : O1 P l pd2 (puts l D (A5 l (({a with defers:=ds} : Act).put d v) q)) w' := hst
    refine⟨?_,by rw [e1]; exact ih h.2 (fun p hp=>h1 p (by simp [hp])) (fun p hp=>h2 p (by simp [hp])) (fun p hp=>h3 p (by simp [hp])) (by rw [e1] at hst'; exact hst') (fun D1 p D2 hD=>hcl (q::D1) p D2 (by simp [hD]))⟩
    obtain⟨o,ho,hy⟩:=h.1
    have hsel : ∀ cs b,o.op ≠ .select cs b:=fun cs b=>hs _ o cs b ho
    have g1:execOp (({a with defers:=ds} : Act).put d v).eval o=execOp a.eval o:=(execOp_put (ops:=l.toArray) o hsel _ d v (h1 q (by simp) o ho)).trans rfl
    have g2:B4 l o (({a with defers:=ds} : Act).put d v)=B4 l o a:=(wanted_put (ops:=l.toArray) o _ d v (h1 q (by simp) o ho)).trans rfl
    refine⟨o,ho,?_⟩
    rw [g2]
    rcases hy with hy | ⟨hw,hr,hk⟩
    · exact .inl hy
    · refine .inr ⟨hw,?_⟩
      rcases hk with ⟨h0,hk⟩ | ⟨hl,hk⟩
      · rw [g1]
        exact⟨hk w',.inl ⟨h0,hk⟩⟩
      · have hm:=h3 q (by simp) hk
        refine⟨?_,.inr ⟨hl,hm⟩⟩
        have hs1:=hst q hm o ho
        have hc:=hcl [] q D rfl hl
        rw [(Q0v (D:=q::D) hsel (fun p hp e he=>by
          have:=hc p hp
          unfold clobB at this
          rw [ho] at this
          unfold F9 at he
          cases hop:l[p.1]? with
          | none=>rw [hop] at he; cases he
          | some op =>
            rw [hop] at he this
            simp only [Option.bind_some] at he
            simp only [he] at this
            intro hh
            rw [List.contains_iff_mem.2 hh] at this
            cases this) _).1] at hs1
        exact hs1

theorem Q5f {listed:Array Bool} {n j:Nat} (hn:listed.size=n) (hj:j < n):listed.getD j true=listed.getD j false:=by
  rw [Array.getD_eq_getD_getElem?,Array.getD_eq_getD_getElem?,Array.getElem?_eq_getElem (by omega)]
  rfl

theorem ser_any (hs : ∀(j:Nat) (o:Oper) cs b,l[j]? = some o→o.op ≠ .select cs b) (hcl : ∀(j:Nat) (o:Oper),l[j]? = some o → ∀ e ∈ o.after,Region.binds .any e=true→e.on < l.length)
    (hQ : ∀ c a i v w,Q (.panic c) (Act.put a (F9 l i) v) w→Q (.panic c) a w) :
    ∀(fuel:Nat) (listed:Array Bool) (a:Act) (w:World) (D pd:List (Nat×Value)) (R:List Nat),listed.size=l.length →
      (∀ j,j < l.length→(listed.getD j false=false ↔ j ∈ D.map (·.1)++R))→(∀ j ∈ D.map (·.1)++R,j < l.length) →
      (∀(j:Nat) (o:Oper),listed.getD j false=true→l[j]? = some o → ∀ e ∈ o.after,Region.binds .any e=true→listed.getD e.on false=true) →
      Good l fl (D.map (·.1)++R)→L7 P l fl pd D a w→K6 P l fl Q pd R (puts l D a) w→D.length+R.length≤fuel→wpAnyIn Fence.wide 0 P .any l.toArray Q fuel listed a w:=by
  intro fuel
  induction fuel with
  | zero =>
    intro listed a w D pd R hn hin hlt hdn hg hp hw hf
    have hD:D = []:=List.eq_nil_of_length_eq_zero (by omega)
    have hR:R = []:=List.eq_nil_of_length_eq_zero (by omega)
    subst hD
    subst hR
    refine⟨?_,hw⟩
    cases hr:Region.ready .any l.toArray listed with
    | nil=>rfl
    | cons j js =>
      exfalso
      have hj:j ∈ Region.ready .any l.toArray listed:=by rw [hr]; simp
      rw [mem_ready] at hj
      obtain⟨h0,o,ho,_⟩:=hj
      rw [List.getElem?_toArray] at ho
      have hjl:j < l.length:=(List.getElem?_eq_some_iff.1 ho).1
      rw [Q5f hn hjl] at h0
      have:=(hin j hjl).1 h0
      simp at this
  | succ fuel ih =>
    intro listed a w D0 pd0 R0 hn hin hlt hdn hg hp0 hw0 hf
    obtain⟨D,pd,R,heq,hp,hw,hR⟩:=Y0k R0 D0 pd0 a w hp0 hw0
    have hlen:D.length+R.length≤fuel+1:=by
      have:=congrArg List.length heq
      simp at this
      omega
    rw [heq] at hin hlt hg
    clear heq hp0 hw0 hf
    refine⟨fun hnil => ?_,fun j hj => ?_⟩
    · -- nothing may come up: all has been done
      cases hx:D.map (·.1)++R with
      | nil =>
        obtain⟨h1,h2⟩:=List.append_eq_nil_iff.1 hx
        have hD:D = []:=by simpa using h1
        subst hD
        subst h2
        exact hw
      | cons x xs =>
        exfalso
        rw [hx] at hin hlt hg
        have hxl:x < l.length:=hlt x (by simp)
        have hx0:listed.getD x false=false:=(hin x hxl).2 (by simp)
        have hmem:x ∈ Region.ready .any l.toArray listed:=by
          rw [mem_ready]
          refine⟨by rw [Q5f hn hxl]; exact hx0,l[x],by rw [List.getElem?_toArray,List.getElem?_eq_getElem hxl],fun e he hb => ?_⟩
          have hel:=hcl x _ (List.getElem?_eq_getElem hxl) e he hb
          cases hh:listed.getD e.on false with
          | true=>rfl
          | false =>
            exfalso
            rcases List.mem_cons.1 ((hin e.on hel).1 hh) with h | h
            · exact hg.2.2.1 _ (List.getElem?_eq_getElem hxl) e he hb h
            · exact(hg.1 _ h).no _ (List.getElem?_eq_getElem hxl) e he hb rfl
        rw [hnil] at hmem
        cases hmem
    · rw [mem_ready] at hj
      obtain⟨h0,o,ho,hrd⟩:=hj
      rw [List.getElem?_toArray] at ho
      have hjl:j < l.length:=(List.getElem?_eq_some_iff.1 ho).1
      rw [Q5f hn hjl] at h0
      have hpre : ∀ r k,Pre l r k→(k=j ∨ listed.getD k false=true)→listed.getD r false=true:=by
        intro r k hpr
        induction hpr with
        | base hk he hb =>
          rintro(rfl | hk2)
          · rw [ho] at hk
            cases hk
            exact hrd _ he hb
          · exact hdn _ _ hk2 hk _ he hb
        | step hk he hb _ ih2 =>
          rintro(rfl | hk2)
          · rw [ho] at hk
            cases hk
            exact ih2 (.inr (hrd _ he hb))
          · exact ih2 (.inr (hdn _ _ hk2 hk _ he hb))
      have hun : ∀ i,i ∈ D.map (·.1)++R → ¬ Pre l i j:=fun i hi hpi=>by
        have h1:=(hin i (hlt i hi)).2 hi
        rw [hpre i j hpi (.inl rfl)] at h1
        cases h1
      have hn' : (listed.setIfInBounds j true).size=l.length:=by simp [hn]
      have hset : ∀ i,(listed.setIfInBounds j true).getD i false=if i=j then true else listed.getD i false:=by
        intro i
        by_cases hij:i=j
        · subst hij
          rw [if_pos rfl,Array.getD_eq_getD_getElem?,Array.getElem?_setIfInBounds_self_of_lt (by omega)]
          rfl
        · rw [if_neg hij,getD_set_ne false (Ne.symm hij)]
      have hdn' : ∀(i:Nat) (o:Oper),(listed.setIfInBounds j true).getD i false=true→l[i]? = some o → ∀ e ∈ o.after,Region.binds .any e=true→(listed.setIfInBounds j true).getD e.on false=true:=by
        intro i o2 hi ho2 e he hb
        refine getD_set_true ?_
        rw [hset] at hi
        split at hi
        · rename_i hij
          subst hij
          rw [ho] at ho2
          cases ho2
          exact hrd e he hb
        · exact hdn i o2 hi ho2 e he hb
      have hjm:=(hin j hjl).1 h0
      have hap : ∀ i,i ∈ D.map (·.1)→Z8x l fl i j → ∀ oi,l[i]? = some oi→oi.apart l.toArray o=true:=fun i hi hpp oi hoi=>by
        rcases hpp.ap with h | h
        · exact absurd h (hun i (List.mem_append_left _ hi))
        · exact h oi o hoi ho
      have hgood : ∀(D1:List (Nat×Value)),(∀ p ∈ D1,Z8x l fl p.1 j∧p.1 ∈ D.map (·.1)) →
          (∀ p ∈ D1,∀ d,F9 l p.1=some d→d ∉ o.looksAt l.toArray)∧(∀ p ∈ D1,∀ e,F9 l p.1=some e→o.dst ≠ some e)∧(∀ p ∈ D1,∀ o2,l[p.1]? = some o2 → ∀ e,o.dst=some e→e ∉ o2.looksAt l.toArray):=by
        intro D1 hD1
        refine⟨fun p hp d hd => ?_,fun p hp d hd => ?_,fun p hp o2 ho2 d hd => ?_⟩
        · unfold F9 at hd
          cases hop:l[p.1]? with
          | none=>rw [hop] at hd; cases hd
          | some o2 =>
            rw [hop] at hd
            exact(Oper.apart_spec (hap p.1 (hD1 p hp).2 (hD1 p hp).1 o2 hop)).1 d hd
        · unfold F9 at hd
          cases hop:l[p.1]? with
          | none=>rw [hop] at hd; cases hd
          | some o2 =>
            rw [hop] at hd
            exact(Oper.apart_spec (hap p.1 (hD1 p hp).2 (hD1 p hp).1 o2 hop)).2.1 d hd
        · exact(Oper.apart_spec (hap p.1 (hD1 p hp).2 (hD1 p hp).1 o2 ho2)).2.2 d hd
      unfold wpOpIn
      rw [List.getElem?_toArray,ho]
      simp only
      rcases List.mem_append.1 hjm with hjD | hjR
      · -- one of those that wait
        obtain⟨⟨j',v⟩,hm,hj'⟩:=List.mem_map.1 hjD
        simp only at hj'
        subst hj'
        obtain⟨D1,D2,rfl⟩:=List.append_of_mem hm
        have hgp:=hg
        rw [List.map_append,List.map_cons,List.append_assoc,List.cons_append] at hgp
        have hpr:=hgp.pair
        have hA:=hgood D1 (fun p hp=>⟨hpr.1 p.1 (List.mem_map_of_mem hp),List.mem_map_of_mem (by simp [hp])⟩)
        obtain⟨hp1,hy,hp2⟩:=hp.split
        obtain⟨o',ho',hy⟩:=hy
        rw [ho] at ho'
        cases ho'
        have hev:=Q0v (D:=D1) (fun cs b=>hs _ o cs b ho) hA.1 a
        rw [hev.2,hev.1] at hy
        have hdst:F9 l j' = o.dst:=by simp [F9,ho]
        have hfin:wpAnyIn Fence.wide 0 P .any l.toArray Q fuel (listed.setIfInBounds j' true) (a.put o.dst v) w:=by
          have hpp:puts l D1 (a.put o.dst v)=(puts l D1 a).put o.dst v:=Q4m (fun p hp e he=>hA.2.1 p hp e he) a v
          have hpi:A5 l (puts l D1 a) (j',v)=(puts l D1 a).put o.dst v:=by simp [A5,hdst]
          refine ih _ _ _ (D1++D2) pd R hn' ?_ ?_ hdn' ?_ ?_ ?_ ?_
          · intro i hi
            rw [hset]
            by_cases hij:i=j'
            · subst hij
              rw [if_pos rfl]
              refine⟨fun h=>(Bool.noConfusion h),fun h => ?_⟩
              exfalso
              simp only [List.map_append,List.append_assoc,List.mem_append] at h
              rcases h with h | h | h
              · exact(hpr.1 i h).ne rfl
              · exact(hpr.2 i (List.mem_append_left _ h)).ne rfl
              · exact(hpr.2 i (List.mem_append_right _ h)).ne rfl
            · rw [if_neg hij,hin i hi]
              simp only [List.map_append,List.map_cons,List.append_assoc,List.mem_append,List.mem_cons]
              constructor
              · rintro(h | (h | h) | h)
                · exact .inl h
                · exact absurd h hij
                · exact .inr (.inl h)
                · exact .inr (.inr h)
              · rintro(h | h | h)
                · exact .inl h
                · exact .inr (.inl (.inr h))
                · exact .inr (.inr h)
          · intro i hi
            refine hlt i ?_
            simp only [List.map_append,List.map_cons,List.append_assoc,List.mem_append,List.mem_cons] at hi ⊢
            rcases hi with h | h | h
            · exact .inl h
            · exact .inr (.inl (.inr h))
            · exact .inr (.inr h)
          · refine hg.sub ?_
            rw [List.map_append,List.map_append,List.map_cons]
            exact List.Sublist.append (List.Sublist.append (List.Sublist.refl _) (List.Sublist.cons _ (List.Sublist.refl _))) (List.Sublist.refl _)
          · refine L7.append (hp1.put hs hA.2.2 hA.2.1) ?_
            rw [hpp]
            rw [hpi] at hp2
            exact hp2
          · have:puts l (D1++(j',v)::D2) a=puts l (D1++D2) (a.put o.dst v):=by
              simp only [puts,List.foldl_append,List.foldl_cons]
              show puts l D2 (A5 l (puts l D1 a) (j',v))=puts l D2 (puts l D1 (a.put o.dst v))
              rw [hpp,hpi]
            rw [← this]
            exact hw
          · simp at hlen ⊢
            omega
        rcases hy with ⟨hy1,hy2⟩ | ⟨hy1,hy2,_⟩
        · have hb:Region.wanted o (yielded l.toArray a.tmps)=false:=hy1
          simp only at hy2
          subst hy2
          rw [hb]
          exact⟨fun _ _=>trivial,hfin⟩
        · have hb:Region.wanted o (yielded l.toArray a.tmps)=true:=hy1
          rw [hb]
          refine⟨fun _ _=>trivial,?_⟩
          show o.uponIn _ _ _ _ _ _ ((o.semAt none a.eval).run P w)
          rw [Oper.semAt_none,hy2]
          exact hfin
      · -- the next that writes
        rcases hR with rfl | ⟨r,R',o',rfl,ho',hwr,hnz⟩
        · cases hjR
        · have hpr:=hg.pair
          have hjr:j=r:=by
            rcases List.mem_cons.1 hjR with h | h
            · exact h
            · exact absurd ((hpr.2 j h).nz hnz) (hun r (by simp))
          subst hjr
          rw [ho] at ho'
          cases ho'
          have hA:=hgood D (fun p hp=>⟨hpr.1 p.1 (List.mem_map_of_mem hp),List.mem_map_of_mem hp⟩)
          have hev:=Q0v (D:=D) (fun cs b=>hs _ o cs b ho) hA.1 a
          have hb:Region.wanted o (yielded l.toArray a.tmps)=true:=hev.2.symm.trans hwr
          rw [hb]
          unfold K6 at hw
          obtain⟨o',ho',hw⟩:=hw
          rw [ho] at ho'
          cases ho'
          rw [hwr] at hw
          have hw2:o.wpIn Fence.wide 0 P (puts l D a) w (fun a' w' => O1 P l (pd.filter fun p => !((C1 l).getD j 0).testBit p.1) a' w' ∧ K6 P l fl Q (pd.filter fun p => !((C1 l).getD j 0).testBit p.1) R' a' w') Q:=by
            simp only at hw
            unfold nzB at hnz
            split at hw
            · rename_i h; rw [h] at hnz; cases hnz
            · rename_i h; rw [h] at hnz; cases hnz
            · exact hw
          refine Oper.wpIn_mono ?_ (Z7e (fun cs b=>hs _ o cs b ho) hA.1 hA.2.1 hQ hw2)
          rintro a' w' ⟨⟨u,ds,rfl⟩,hst,hw3⟩
          refine ih _ _ _ D (pd.filter fun p => !((C1 l).getD j 0).testBit p.1) R' hn' ?_ ?_ hdn' ?_ ?_ hw3 ?_
          · intro i hi
            rw [hset]
            by_cases hij:i=j
            · subst hij
              rw [if_pos rfl]
              refine⟨fun h=>(Bool.noConfusion h),fun h => ?_⟩
              exfalso
              rcases List.mem_append.1 h with h | h
              · exact(hpr.1 i h).ne rfl
              · exact(hpr.2 i h).ne rfl
            · rw [if_neg hij,hin i hi]
              simp only [List.mem_append,List.mem_cons]
              constructor
              · rintro(h | h | h)
                · exact .inl h
                · exact absurd h hij
                · exact .inr h
              · rintro(h | h)
                · exact .inl h
                · exact .inr (.inr h)
          · intro i hi
            refine hlt i ?_
            simp only [List.mem_append,List.mem_cons] at hi ⊢
            rcases hi with h | h
            · exact .inl h
            · exact .inr (.inr h)
          · exact hg.sub (List.Sublist.append (List.Sublist.refl _) (List.Sublist.cons _ (List.Sublist.refl _)))
          · refine hp.after hs hA.2.2 hA.2.1 (fun p hp hpd => ?_) hst (fun D1 p D2 hD hl => ?_)
            · refine List.mem_filter.2 ⟨hpd,?_⟩
              cases hb2:((C1 l).getD j 0).testBit p.1 with
              | false=>rfl
              | true=>exact absurd (Q0o l _ _ hb2) (hun p.1 (List.mem_append_left _ (List.mem_map_of_mem hp)))
            · have hg2:=hg
              rw [hD,List.map_append,List.map_cons,List.append_assoc,List.cons_append] at hg2
              have hg3:Good l fl (p.1::(D2.map (·.1)++j::R')):=hg2.sub (List.sublist_append_right _ _)
              rcases hg3.2.1 hl with h | h
              · intro q hq
                refine h q.1 ?_
                rcases List.mem_cons.1 hq with rfl | hq
                · simp
                · exact List.mem_cons_of_mem _ (List.mem_append_left _ (List.mem_map_of_mem hq))
              · exact absurd (h j (by simp) hnz) (hun p.1 (List.mem_append_left _ (List.mem_map_of_mem (by rw [hD]; simp))))
          · simp at hlen ⊢
            omega

theorem Z4o {ord:List Nat} (hB:serB l fl ord=true) (hQ : ∀ c a i v w,Q (.panic c) (Act.put a (F9 l i) v) w→Q (.panic c) a w) {a:Act} {w:World} (h:K6 P l fl Q [] ord a w) :
    wpAnyIn Fence.wide 0 P .any l.toArray Q l.length (Array.replicate l.length false) a w:=by
  simp only [serB,Bool.and_eq_true,List.all_eq_true] at hB
  obtain⟨⟨⟨⟨⟨h1,h2⟩,h3⟩,h4⟩,h5⟩,h6⟩:=hB
  have hsel : ∀(j:Nat) (o:Oper) cs b,l[j]? = some o→o.op ≠ .select cs b:=by
    intro j o cs b ho hop
    unfold Region.noSelect at h4
    rw [Array.all_eq_true_iff_forall_mem] at h4
    have:=h4 o (by simpa using List.mem_of_getElem? ho)
    rw [hop] at this
    cases this
  have hcl : ∀(j:Nat) (o:Oper),l[j]? = some o → ∀ e ∈ o.after,Region.binds .any e=true→e.on < l.length:=by
    intro j o ho e he hb
    simp only [Z0i,List.all_eq_true] at h5
    have:=h5 o (List.mem_of_getElem? ho)
    rw [Array.all_eq_true_iff_forall_mem] at this
    have:=this e he
    rw [hb] at this
    simpa [Nat.blt_eq] using this
  have hrep : ∀ i,i < l.length→(Array.replicate l.length false).getD i false=false:=fun i hi=>by simp [Array.getD_eq_getD_getElem?,hi]
  refine ser_any hsel hcl hQ l.length _ a w [] [] ord (by simp) ?_ ?_ ?_ (good_of ord h6) trivial h ?_
  · intro j hj
    refine⟨fun _ => ?_,fun _=>hrep j hj⟩
    simpa using h3 j (List.mem_range.2 hj)
  · intro j hj
    simpa [Nat.blt_eq] using h2 j (by simpa using hj)
  · intro j o hj ho
    rw [hrep j (List.getElem?_eq_some_iff.1 ho).1] at hj
    cases hj
  · have:=Nat.eq_of_beq_eq_true h1
    simp
    omega
end

section
variable {P:Program} {l:List Oper} {fl:List Nat} {Q:Exit→Act→World→Prop} {pd:List (Nat×Value)} {i:Nat} {is:List Nat} {n:NF} {J:Nat→Value} {L:List (Nat×Value)} {w w' w0:World}
  {d:Nat} {ty:TypeId} {pos:String} {aft:Array Edge} {op:Op} {v:Value} {x y c:Operand} {t t2:TypeId} {T:Nat→Prop} {gd:Option (Nat×Bool)}

def Wt (l:List Oper) (n:NF) (J:Nat→Value) (L:List (Nat×Value)):Option (Nat×Bool)→Prop
  | none=>True
  | some (g,want) => ∃ d0,(l[g]?).bind (·.dst)=some d0∧ev n J L (.tmp d0) = .bool want
def Wf (l:List Oper) (n:NF) (J:Nat→Value) (L:List (Nat×Value)):Option (Nat×Bool)→Prop
  | none=>False
  | some (g,want) => ∃ d0,(l[g]?).bind (·.dst)=some d0∧(ev n J L (.tmp d0) = .bool (!want) ∨ ev n J L (.tmp d0)=undef)

theorem gI {l:List Oper} {n:NF} {J:Nat→Value} {L:List (Nat×Value)} {g d0:Nat} {want b:Bool} (h1:(l[g]?).bind (·.dst)=some d0) (h2:ev n J L (.tmp d0) = .bool b) (h:b = !want):Wf l n J L (some (g,want)):=⟨d0,h1,.inl (h2.trans (congrArg Value.bool h))⟩
theorem Z4f {g d0:Nat} (h:(l[g]?).bind (·.dst)=some d0):yielded l.toArray (env n J L).tmps g=match ev n J L (.tmp d0) with
    | .bool b=>some b
    | _=>none:=by
  rw [W7]
  unfold yv
  rw [List.getElem?_toArray,h]
  simp only []
  split <;> simp_all
theorem Q4e {o:Oper} (hg:o.guard=gd) (h:Wt l n J L gd):B4 l o (env n J L)=true:=by
  unfold B4 Region.wanted
  rw [hg]
  cases gd with
  | none=>rfl
  | some p =>
    obtain⟨d0,h1,h2⟩:=h
    simp only
    rw [Z4f h1,h2]
    simp
theorem want_f {o:Oper} (hg:o.guard=gd) (h:Wf l n J L gd):B4 l o (env n J L)=false:=by
  unfold B4 Region.wanted
  rw [hg]
  cases gd with
  | none=>exact h.elim
  | some p =>
    obtain⟨d0,h1,h2⟩:=h
    simp only
    rw [Z4f h1]
    rcases h2 with h2 | h2
    · rw [h2]; cases p.2 <;> rfl
    · rw [h2]; simp [undef]

theorem rs {id:Nat} (fl:List Nat) (ord:List Nat) (hm:P.follows .mixedOrders=true) (hB:serB l fl ord=true) (hb:Bd T w)
    (k : ∀ w',Inn w.heap.size noB T w T w' → K6 P l fl (NoPanic Q) [] ord (env n J L) w'):(Code.region id l.toArray true).wp P Q (env n J L) w:=by
  refine(wpIn_wide (n:=0)).1 (wpIn_mono (Q:=NoPanic Q) (wpIn_region_any hm ?_) fun e a w h=>by cases e <;> first | exact h | exact h.elim)
  have:=Z4o hB (Q:=NoPanic Q) (fun _ _ _ _ _ h=>h.elim) (k w.drew ((Inn.refl hb (Nat.le_refl _)).ch0 (Ch.drew noB w)))
  simpa using this

theorem se (h:Q .normal (env n J L) w):K6 P l fl (NoPanic Q) pd [] (env n J L) w:=h
theorem s0 (ho:l[i]? = some ⟨some d,op,ty,pos,aft,gd⟩) (hw:Wt l n J L gd) (h : ∀ w,(execOp (ev n J L) ⟨some d,op,ty,pos,aft,none⟩).run P w = .ok (.value v) w) (hf:fl.getD i 2=0)
    (k:K6 P l fl Q pd is (env n J ((d,v)::L)) w):K6 P l fl Q pd (i::is) (env n J L) w:=by
  refine⟨_,ho,?_⟩
  rw [Q4e rfl hw,hf]
  refine⟨v,fun w => ?_,?_⟩
  · rw [K7]
    exact h w
  · show K6 P l fl Q pd is (Act.put _ (some d) v) w
    rw [E5]
    exact k
theorem s1 (ho:l[i]? = some ⟨some d,op,ty,pos,aft,gd⟩) (hw:Wt l n J L gd) (h:(execOp (ev n J L) ⟨some d,op,ty,pos,aft,none⟩).run P w = .ok (.value v) w) (hf:fl.getD i 2=1)
    (k:K6 P l fl Q ((i,v)::pd) is (env n J ((d,v)::L)) w):K6 P l fl Q pd (i::is) (env n J L) w:=by
  refine⟨_,ho,?_⟩
  rw [Q4e rfl hw,hf]
  refine⟨v,?_,?_⟩
  · rw [K7]
    exact h
  · show K6 P l fl Q ((i,v)::pd) is (Act.put _ (some d) v) w
    rw [E5]
    exact k
theorem sU (ho:l[i]? = some ⟨some d,op,ty,pos,aft,gd⟩) (hw:Wf l n J L gd) (k:K6 P l fl Q pd is (env n J ((d,undef)::L)) w):K6 P l fl Q pd (i::is) (env n J L) w:=by
  refine⟨_,ho,?_⟩
  rw [want_f rfl hw]
  show K6 P l fl Q pd is (Act.put _ (some d) undef) w
  rw [E5]
  exact k
theorem s2 {dst:Option Tmp} (pd2:List (Nat×Value)) (ho:l[i]? = some ⟨dst,op,ty,pos,aft,gd⟩) (hw:Wt l n J L gd) (hf:fl.getD i 2=2) (hp:(pd.filter fun p => !((C1 l).getD i 0).testBit p.1)=pd2)
    (h:Oper.wp P ⟨dst,op,ty,pos,aft,none⟩ (env n J L) w (fun a' w' => O1 P l pd2 a' w' ∧ K6 P l fl Q pd2 is a' w') Q):K6 P l fl Q pd (i::is) (env n J L) w:=by
  refine⟨_,ho,?_⟩
  rw [Q4e rfl hw,hf]
  subst hp
  exact wp_in h
theorem s2I {dst:Option Tmp} (pd2:List (Nat×Value)) (ho:l[i]? = some ⟨dst,op,ty,pos,aft,gd⟩) (hw:Wt l n J L gd) (hf:fl.getD i 2=2) (hp:(pd.filter fun p => !((C1 l).getD i 0).testBit p.1)=pd2)
    (h:Oper.wpIn Fence.wide 0 P ⟨dst,op,ty,pos,aft,none⟩ (env n J L) w (fun a' w' => O1 P l pd2 a' w' ∧ K6 P l fl Q pd2 is a' w') Q):K6 P l fl Q pd (i::is) (env n J L) w:=by
  refine⟨_,ho,?_⟩
  rw [Q4e rfl hw,hf]
  subst hp
  exact h
theorem st0 {a:Act} : O1 P l [] a w:=fun p hp=>by cases hp
theorem st1 {j:Nat} {u:Value} (ho:l[j]? = some ⟨some d,op,ty,pos,aft,gd⟩) (h:(execOp (ev n J L) ⟨some d,op,ty,pos,aft,none⟩).run P w = .ok (.value u) w) (k:O1 P l pd (env n J L) w):O1 P l ((j,u)::pd) (env n J L) w:=fun p hp o' ho' => by
  rcases List.mem_cons.1 hp with rfl | hp
  · rw [ho] at ho'
    cases ho'
    rw [K7]
    exact h
  · exact k p hp o' ho'

section
variable {ops:Array Oper}
theorem SlR.ixq {α : Type} {r:Rp α} {l:List α} {v:Value} {i:Int} {u : α} {sz:Nat} (h:SlR r T w v l) (hi:idx l i=some u) (hz:r.sz=sz) :
    ∃ b off cs k cap,v = .slice (some ⟨b,k,none⟩) l.length cap∧0≤i∧i < l.length∧off=k+i.toNat * sz∧r.rp T w cs u∧cellsAt w b off cs:=by
  subst hz
  obtain⟨h0,h1,h2⟩:=L4 hi
  obtain⟨b,off,cap,cs,hv,_,hr,hc⟩:=h.atI h2
  exact⟨b,_,cs,off,cap,hv,h0,by omega,rfl,hr,hc⟩
theorem OwS.ixq {α : Type} {r:Rp α} {e:TypeId} {B:Nat} {l:List α} {v:Value} {i:Int} {u : α} {sz:Nat} (h:OwS r e B T w v l) (hi:idx l i=some u) (hz:r.sz=sz) :
    ∃ b off cs k cap,v = .slice (some ⟨b,k,none⟩) l.length cap∧0≤i∧i < l.length∧off=k+i.toNat * sz∧r.rp T w cs u∧cellsAt w b off cs:=by
  subst hz
  obtain⟨h0,h1,h2⟩:=L4 hi
  obtain⟨b,cap,cs,hv,_,hr,hc⟩:=h.atI h2
  exact⟨b,_,cs,0,cap,hv,h0,by omega,rfl,hr,hc⟩
theorem r_ixe {b off k len cap sz:Nat} {ik:IntKind} {i:Int} {e:TypeId} (hx:ev n J L x = .slice (some ⟨b,k,none⟩) len cap) (hy:ev n J L y = .int ik i) (ht:P.underlying t=some (.slice e)) (hs : ∀ w,(sizeOf e).run P w = .ok sz w) (h0:0≤i) (h1:i < len)
    (ho:off=k+i.toNat * sz):(execOp (ev n J L) ⟨some d,.indexAddr t x y,ty,pos,aft,none⟩).run P w = .ok (.value (.pointer (some ⟨b,off,none⟩))) w:=by
  subst ho
  exact r_ix hx hy ht hs h0 h1
theorem V1 {b b1:Bool} (hc:ev n J L c = .bool b) (hb:b=true) (hx:ev n J L x = .bool b1):(execOp (ev n J L) ⟨some d,.pick c x y,ty,pos,aft,none⟩).run P w = .ok (.value (.bool b1)) w:=by
  subst hb
  simp [execOp,hc,hx,go_sem]
theorem V2 {b b2:Bool} (hc:ev n J L c = .bool b) (hb:b=false) (hy:ev n J L y = .bool b2):(execOp (ev n J L) ⟨some d,.pick c x y,ty,pos,aft,none⟩).run P w = .ok (.value (.bool b2)) w:=by
  subst hb
  simp [execOp,hc,hy,go_sem]
theorem r_lnt {a:List UInt8} (hx:ev n J L x = .string ⟨a.toArray⟩) (ht:P.underlying t=some .string):(execOp (ev n J L) ⟨some d,.call ⟨.builtin .len,#[x],#[t]⟩,ty,pos,aft,none⟩).run P w = .ok (.value (.int .i64 (a.length:Int))) w:=by
  have e:((⟨a.toArray⟩:ByteArray).size:Int)=a.length:=by simp [ByteArray.size]
  rw [← e]
  exact r_lns hx ht
end
end
end Go.Proofs.YtecakklofhfphaaGreatDoor
