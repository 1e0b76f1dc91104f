/- A range over a function, told of what functions own. It holds for every program. -/
import Derived.Test.YtecakklofhfphaaGreatDoorKAct
import Derived.RangeFuncRecord
import Derived.RangeFuncCalls
import Derived.RangeFuncBound
import Derived.OrdersIn
import Derived.Test.YtecakklofhfphaaGreatDoorKRet
set_option linter.unusedVariables false
namespace Go.Proofs.YtecakklofhfphaaGreatDoor

def Q1o (b:Nat) (o:Obj):Z4 where
  P:=fun _ w F=>(∀ k,F k ↔ k=b)∧w.heap[b]? = some o
  loc:=fun h _ hs=>⟨h.1,(hs b (.inr ((h.1 b).2 rfl))).trans h.2⟩
  bnd:=fun h k hk=>by have:=(h.1 k).1 hk; subst this; exact hlt h.2

theorem Ch.putObj (w:World) (b:Nat) (o:Obj):Ch (fun k=>k=b) w (w.putObj b o) :=
  ⟨rfl,rfl,rfl,by simp,fun k _ hn=>World.putObj_heap_other hn⟩
theorem Sep.obj {g:World} {T:Nat→Prop} {w:World} {L:List Z4} {b:Nat} {o:Obj} (h:Sep g T w L) (i:Nat) (hi:Nat.blt i (X1 L)=true) (hA:atA L i=Q1o b o):w.heap[b]? = some o ∧ ¬ T b:=by
  obtain⟨F,hF,hn⟩:=h.get i hi
  rw [hA] at hF
  exact⟨hF.2,hn b ((hF.1 b).2 rfl)⟩
theorem Sep.setObj {g:World} {T:Nat→Prop} {w:World} {L:List Z4} {b:Nat} {o:Obj} (h:Sep g T w L) (i:Nat) (hi:Nat.blt i (X1 L)=true) (hA:atA L i=Q1o b o) (o' : Obj) :
    Im T w T (w.putObj b o')∧Sep g T (w.putObj b o') (C6 L i (Q1o b o')):=by
  obtain⟨hb,hn⟩:=h.obj i hi hA
  have inn:Inn w.heap.size (fun k=>k=b) T w T (w.putObj b o'):=(Inn.refl h.lt (Nat.le_refl _)).ch1 (Ch.putObj w b o') fun k hk=>⟨by subst hk; exact hn,.inr hk⟩
  refine⟨fun k hk=>⟨hk,(inn.imm k hk).2⟩,h.put i hi inn fun F hF hFn => ?_⟩
  rw [hA] at hF
  exact⟨fun k hk=>(hF.1 k).2 hk,F,⟨hF.1,World.putObj_heap_same (hlt hb)⟩,fun k hk=>⟨.inl hk,hFn k hk⟩⟩
theorem Sep.newObj {g:World} {T:Nat→Prop} {w:World} {L:List Z4} (h:Sep g T w L) (o:Obj):Im T w T (w.alloc o)∧Sep g T (w.alloc o) (Q1o w.heap.size o::L):=by
  have inn:Inn w.heap.size noB T w T (w.alloc o):=(Inn.refl h.lt (Nat.le_refl _)).ch0 (Ch.alloc noB w o)
  refine⟨fun k hk=>⟨hk,(inn.imm k hk).2⟩,h.cons inn (fun _ hk=>hk) (F:=fun k=>k=w.heap.size) ⟨fun _=>Iff.rfl,World.alloc_heap_new w o⟩ fun k hk=>⟨by omega,fun ht => ?_⟩⟩
  have:=h.lt k ht
  omega

/-! ## Operations in a round -/
def Z2b:List Oper→Bool
  | []=>true
  | o::r=>(match o.op with | .defer _=>false | _=>true)&&Z2b r
theorem Y0x {o:Oper} {r:List Oper} (h:Z2b (o::r)=true) : ∀ c,o.op ≠ .defer c:=by
  intro c hc
  simp [Z2b,hc] at h
theorem listIn {P:Program} {ops:Array Oper} {Q:Exit→Act→World→Prop} {l m:Nat} (hQ : ∀ a w,¬ Q .outgrown a w) : ∀(rest:List Oper) (a:Act) (w:World),Z2b rest=true→wpList P ops Q rest a w→wpListIn (Fence.wide.inRound l) m P ops Q rest a w:=by
  intro rest
  induction rest with
  | nil=>intro a w _ h; exact h
  | cons o rest ih =>
    intro a w hd h
    have hd2:Z2b rest=true:=by simp only [Z2b,Bool.and_eq_true] at hd; exact hd.2
    unfold wpList at h
    unfold wpListIn
    split
    · rename_i hw
      rw [if_pos hw] at h
      rcases h with h | ⟨_,a',w',h⟩
      · refine⟨fun _ _=>trivial,?_⟩
        show o.uponIn _ _ _ _ _ _ ((o.semAt (some l) a.eval).run P w)
        rw [Oper.semAt_some l _ _ (Y0x hd)]
        unfold Oper.wp at h
        revert h
        generalize (execOp a.eval o).run P w=r
        intro h
        cases r with
        | ok nx w1 =>
          cases nx <;> simp only [Oper.upon] at h
          case value u=>exact ih _ _ hd2 h
          case skip=>exact ih _ _ hd2 h
          case defer u=>exact ih _ _ hd2 h
          case enter f args =>
            refine⟨fun h=>(by cases h),CallsIn.inRound l (callsIn_wide.2 (h.mono ?_))⟩
            intro e w2 he
            cases e with
            | returned u=>exact ih _ _ hd2 he
            | panicked ch=>exact he
            | outgrown=>exact he
          case row rw args =>
            refine⟨fun h=>(by cases h),fun c cs _ => ?_⟩
            obtain⟨v,w',hv,hs⟩:=h c cs
            exact⟨v,w',ih _ _ hd2 hv,stepsIn_wide.2 hs⟩
        | halt hh w1 =>
          cases hh <;> simp only [Oper.upon] at h
          exact h
      · exact absurd h (hQ a' w')
    · rename_i hw
      rw [if_neg hw] at h
      exact⟨fun _ _=>trivial,ih _ _ hd2 h⟩
theorem regIn {P:Program} {Q:Exit→Act→World→Prop} {l m id:Nat} {ops:List Oper} {a:Act} {w:World} (hQ : ∀ a w,¬ Q .outgrown a w) (hd:Z2b ops=true) (h:wpList P ops.toArray Q ops a w) :
    (Code.region id ops.toArray false).wpIn (Fence.wide.inRound l) m P Q a w:=wpIn_region_lit (listIn hQ ops a w hd h)

/-! ## The statement -/
def Y0l (P:Program) (l:Nat) (args:Array Value) (T:Nat→Prop) (w:World) (R:(Nat→Prop)→World→Bool→Prop):Prop :=
  YieldAt Fence.wide 0 P l args w fun e w' => ∃ b,e = .returned (.bool b) ∧ ∃ T',Im T w T' w' ∧ R T' w' b
def exj:Exit→Option (Option Code)
  | .normal=>some none
  | .ret=>some (some .ret)
  | .exit i=>some (some (.exit i))
  | .goto t=>some (some (.goto t))
  | _=>none
def rndPost (g:World) (T:Nat→Prop) (w:World) (R Y:Z4) (j:Option Code) (e:Exit) (_:Act) (w' : World):Prop:=exj e=some j ∧ ∃ T',Im T w T' w' ∧ Sep g T' w' [R,Y]

/-! ## Calls of yield -/
theorem Y1e {S R A:Type} {s:S} {f:S→A} {g z:A} (h:(Lp.go s:Lp S R).gone f g=z):f s=z:=h
theorem Y1d {S R A:Type} {z:Lp S R} {f:S→A} {g r:A} (hz:z.isGo=false) (h:z.gone f g=r):g=r:=by
  cases z with
  | go s=>cases hz
  | brk s=>exact h
  | ret r=>exact h
theorem go_or {S R:Type} (z:Lp S R):(∃ s,z = .go s) ∨ z.isGo=false:=by
  cases z with
  | go s=>exact .inl ⟨s,rfl⟩
  | brk s=>exact .inr rfl
  | ret r=>exact .inr rfl
theorem yS {P:Program} {Q:Exit→Act→World→Prop} {n:NF} {J:Nat→Value} {L:List (Nat×Value)} {w:World} {T:Nat→Prop} {d l:Nat} {ty:TypeId} {pos:String} {aft:Array Edge} {KK:Act→World→Prop} {fo:Operand} {args:List Value} {xs:Array Operand} {tys:Array TypeId} {R:(Nat→Prop)→World→Bool→Prop}
    (hf:ev n J L fo = .func (.yield l) #[] #[]) (ha:xs.toList.map (ev n J L)=args) (hy:Y0l P l args.toArray T w R) (k : ∀ b T' w',Im T w T' w' → R T' w' b→KK (env n J ((d,.bool b)::L)) w') :
    Oper.wpIn Fence.wide 0 P ⟨some d,.call ⟨.value fo,xs,tys⟩,ty,pos,aft,none⟩ (env n J L) w KK Q:=by
  obtain⟨fn,tmps,assign,body,hr,hround⟩:=hy
  subst ha
  have hm:xs.map (ev n J L)=(xs.toList.map (ev n J L)).toArray:=by apply Array.ext'; simp
  have he:(execOp (ev n J L) ⟨some d,.call ⟨.value fo,xs,tys⟩,ty,pos,aft,none⟩).run P w = .ok (.round l fn tmps assign body) w:=by
    simp only [execOp,resolve,hf,Deferred.ofValue,invoke,Array.empty_append,pure_bind]
    rw [← hr,hm]
  refine⟨fun _ _=>trivial,?_⟩
  show Oper.uponIn _ _ _ _ _ _ _ ((Oper.semAt none (env n J L).eval _).run P w)
  rw [Oper.semAt_none,K7,he,Oper.uponIn_round]
  refine⟨fun h=>(by cases h),hround.mono ?_⟩
  rintro e w1 ⟨b,rfl,T',i,r⟩
  show KK (Act.put _ (some d) _) w1
  rw [E5]
  exact k b T' w1 i r

/-! ## Assertions with names and with frozen slices in them -/
def exA {ι : Type} (A : ι → Z4):Z4 where
  P:=fun T w F => ∃ i,(A i).P T w F
  loc:=fun⟨i,h⟩ hT hs=>⟨i,(A i).loc h hT hs⟩
  bnd:=fun⟨i,h⟩=>(A i).bnd h
def slA {α : Type} (r:Rp α) (v:Value) (l:List α) (A:Z4):Z4 where
  P:=fun T w F=>SlR r T w v l∧A.P T w F
  loc:=fun⟨h1,h2⟩ hT hs=>⟨h1.mono fun k hk=>⟨hT k hk,hs k (.inl hk)⟩,A.loc h2 hT hs⟩
  bnd:=fun⟨_,h⟩=>A.bnd h
theorem Sep.exE {g:World} {T:Nat→Prop} {w:World} {L:List Z4} {ι : Type} {A : ι → Z4} (h:Sep g T w (exA A::L)) : ∃ i,Sep g T w (A i::L):=by
  obtain⟨h1,h2,h3,h4,fs,h5,h6⟩:=h
  obtain⟨i,hi⟩:=h5.1 0 (Nat.succ_pos _)
  exact⟨i,h1,h2,h3,h4,fs,⟨fun j hj=>match j,hj with | 0,_=>hi | j+1,hj=>h5.1 (j+1) hj,h5.2⟩,h6⟩
theorem Sep.exI {g:World} {T:Nat→Prop} {w:World} {L:List Z4} {ι : Type} {A : ι → Z4} (i : ι) (h:Sep g T w (A i::L)):Sep g T w (exA A::L):=h.imp 0 rfl fun F hF=>⟨i,hF⟩
theorem Sep.slE {g:World} {T:Nat→Prop} {w:World} {L:List Z4} {α : Type} {r:Rp α} {v:Value} {l:List α} {A:Z4} (h:Sep g T w (slA r v l A::L)):SlR r T w v l∧Sep g T w (A::L):=by
  obtain⟨F,hF,_⟩:=h.get 0 rfl
  exact⟨hF.1,h.imp 0 rfl fun F hF=>hF.2⟩
theorem Sep.slI {g:World} {T:Nat→Prop} {w:World} {L:List Z4} {α : Type} {r:Rp α} {v:Value} {l:List α} {A:Z4} (hs:SlR r T w v l) (h:Sep g T w (A::L)):Sep g T w (slA r v l A::L):=h.imp 0 rfl fun F hF=>⟨hs,hF⟩

/-! ## The control of a round -/
section
variable {P:Program} {Q:Exit→Act→World→Prop} {n:NF} {J:Nat→Value} {L:List (Nat×Value)} {w:World} {a:Act} {x y:Code} {l i:Nat} {g:World} {T:Nat→Prop} {R Y:Z4} {j:Option Code}
theorem sq2I (h:x.wpIn (Fence.wide.inRound l) 0 P (Exit.then (y.wpIn (Fence.wide.inRound l) 0 P Q) Q) a w):(Code.seq x y).wpIn (Fence.wide.inRound l) 0 P Q a w:=wpIn_seq h
theorem blkI (h:x.wpIn (Fence.wide.inRound l) 0 P (Exit.inBlock i Q) a w):(Code.block i x).wpIn (Fence.wide.inRound l) 0 P Q a w:=wpIn_block h
theorem rndOut {X:Prop} (h:exj .outgrown=some j∧X):False:=by cases h.1
theorem prm1 (p:Nat) (v:Value):({tmps:=((#[p]:Array Tmp).zip #[v]).foldl (fun t (p,v)=>t.setIfInBounds p v) (env n J L).tmps,defers := []} : Act)=env (nf n.n) J ((p,v)::L):=by
  rw [← E5 (nf n.n) J L p v]
  simp [Act.put,env]
end

/-! ## A function that holds such a statement -/
theorem enterM {P:Program} {w:World} {f:FuncId} {fn:Func} {cd:Code} {args:List Value} {R:Ending→World→Prop} {m:Nat} (hf:P.funcs[f]? = some fn) (hb:fn.body=some cd) (hm:fn.ntmps=m) (hl:Nat.ble args.length m=true)
    (h : ∀ J,cd.wp P (bodyPostM Fence.wide 0 P fn R) (env (nf m) J (zipL 0 args)) w):Calls P f args.toArray w R:=by
  refine(callsIn_wide (n:=0)).1 (callsIn_of_wp_marks hf hb trivial ?_ rfl)
  have hl' : args.length≤m:=Nat.le_of_ble_eq_true hl
  have e:(⟨args.toArray++Array.replicate (fn.ntmps - args.toArray.size) undef,[]⟩:Act)=env (nf m) (fun i=>args.getD i undef) []:=by
    unfold env
    congr 1
    apply Array.ext
    · simp; omega
    · intro i h1 h2
      have him:i < m:=by simpa using h2
      by_cases hi:i < args.length
      · simp [lk,hi,List.getD]
      · simp [lk,hi,Array.getElem_append,List.getD]
  rw [e]
  have hz:Has (nf m) (fun i=>args.getD i undef) [] (zipL 0 args):=Z0k _ args 0 fun i v hv=>by simp [List.getD,hv]
  have:env (nf m) (fun i=>args.getD i undef) []=env (nf m) (lk (fun i=>args.getD i undef) []) (zipL 0 args):=by unfold env; rw [Z6f (nf m) _ [] _ hz]
  rw [this]
  exact wpIn_wide.2 (h _)
theorem retNM {P:Program} {J:Nat→Value} {L:List (Nat×Value)} {w:World} {m:Nat} {fn:Func} {R:Ending→World→Prop} {rs:List ResultVar} {vs:List Value} {u:Value} (hr:fn.results=rs.toArray) (hv:RVs P (nf m) J L w rs vs) (hu:tupV vs=u) (hR:R (.returned u) w) :
    bodyPostM Fence.wide 0 P fn R .ret (env (nf m) J L) w:=⟨_,resN hr hv hu,hR⟩
theorem retNK {P:Program} {J:Nat→Value} {L:List (Nat×Value)} {w:World} {m D:Nat} {fn:Func} {R:Ending→World→Prop} {rs:List ResultVar} {vs:List Value} {u:Value} (hD:w.heap[D]? = some (.deferred (some [])))
    (hr:fn.results=rs.toArray) (hv:RVs P ⟨m,[{target := .collected D,args := #[]}]⟩ J L (w.putObj D (.deferred none)) rs vs) (hu:tupV vs=u) (hR:R (.returned u) (w.putObj D (.deferred none))) :
    bodyPostM Fence.wide 0 P fn R .ret (env ⟨m,[{target := .collected D,args := #[]}]⟩ J L) w :=
  ⟨by simp,.inl ⟨D,_,rfl,run_takeDeferred hD,_,resN hr hv hu,hR⟩⟩

/-! ## A region in its own order, in which operations may begin a round -/
theorem serIn {P:Program} {l:List Oper} {Q:Exit→Act→World→Prop} {fl:List Nat} : ∀(rest:List Oper) (k:Nat) (pd:List (Nat×Value)) (a:Act) (w:World),(∀ j,l[k+j]? = rest[j]?)→K6 P l fl Q pd (List.range' k rest.length) a w→wpListIn Fence.wide 0 P l.toArray Q rest a w:=by
  intro rest
  induction rest with
  | nil=>intro k pd a w _ h; exact h
  | cons o rest ih =>
    intro k pd a w hl h
    have h0:l[k]? = some o:=by simpa using hl 0
    have h1 : ∀ j,l[k+1+j]? = rest[j]? := fun j=>by have:=hl (j+1); rw [Nat.add_assoc,Nat.add_comm 1 j]; simpa using this
    rw [List.length_cons,List.range'_succ] at h
    unfold K6 at h
    obtain⟨o',ho,h⟩:=h
    rw [h0] at ho
    cases ho
    unfold wpListIn
    have hw:B4 l o a=Region.wanted o (yielded l.toArray a.tmps):=rfl
    cases hb:B4 l o a with
    | true =>
      rw [if_pos (by rw [← hw,hb])]
      rw [hb] at h
      dsimp only at h
      have val : ∀ v,(execOp a.eval o).run P w = .ok (.value v) w→wpListIn Fence.wide 0 P l.toArray Q rest (a.put o.dst v) w→o.wpIn Fence.wide 0 P a w (wpListIn Fence.wide 0 P l.toArray Q rest) Q:=by
        intro v hr hk
        refine wp_in ?_
        unfold Oper.wp
        rw [hr]
        exact hk
      split at h
      · obtain⟨v,hr,hk⟩:=h
        exact val v (hr w) (ih _ _ _ _ h1 hk)
      · obtain⟨v,hr,hk⟩:=h
        exact val v hr (ih _ _ _ _ h1 hk)
      · exact Oper.wpIn_mono (fun a w h=>ih _ _ _ _ h1 h.2) h
    | false =>
      rw [if_neg (by rw [← hw,hb]; simp)]
      rw [hb] at h
      exact⟨fun _ _=>trivial,ih _ _ _ _ h1 h⟩
theorem ry {P:Program} {Q:Exit→Act→World→Prop} {l:List Oper} {id:Nat} {a:Act} {w:World} (fl:List Nat) (ord:List Nat) (ho:List.range' 0 l.length=ord) (k:K6 P l fl (NoPanic Q) [] ord a w):(Code.region id l.toArray false).wp P Q a w:=by
  subst ho
  exact(wpIn_wide (n:=0)).1 (wpIn_mono (Q:=NoPanic Q) (wpIn_region_lit (serIn l 0 [] a w (fun j=>by rw [Nat.zero_add]) k)) fun e a w h=>by cases e <;> first | exact h | exact h.elim)

/-! ## A region that draws its order, in a round -/
theorem opInR {P:Program} {Q:Exit→Act→World→Prop} {K:Act→World→Prop} {o:Oper} {a:Act} {w:World} {lb:Nat} (hd : ∀ c,o.op ≠ .defer c) (h:o.wpIn Fence.wide 0 P a w K Q):o.wpIn (Fence.wide.inRound lb) 0 P a w K Q:=by
  have h:=h.2
  refine⟨fun _ _=>trivial,?_⟩
  show o.uponIn _ _ _ _ _ _ ((o.semAt (some lb) a.eval).run P w)
  rw [Oper.semAt_some lb _ _ hd]
  change o.uponIn _ _ _ _ _ _ ((o.semAt none a.eval).run P w) at h
  rw [Oper.semAt_none] at h
  revert h
  generalize (execOp a.eval o).run P w=r
  intro h
  cases r with
  | ok nx w1=>cases nx <;> exact h
  | halt x w1=>cases x <;> exact h
theorem noDf_mem {l:List Oper} (h:Z2b l=true) : ∀ {i:Nat} {o:Oper},l.toArray[i]? = some o → ∀ c,o.op ≠ .defer c:=by
  intro i o ho
  have ho' : l[i]? = some o:=by simpa using ho
  clear ho
  revert ho'
  induction l generalizing i with
  | nil=>intro ho; cases ho
  | cons x r ih =>
    intro ho
    cases i with
    | zero=>cases ho; exact Y0x h
    | succ i=>exact ih (by simp only [Z2b,Bool.and_eq_true] at h; exact h.2) (by simpa using ho)
theorem anyInR {P:Program} {Q:Exit→Act→World→Prop} {l:List Oper} {lb:Nat} (hd:Z2b l=true) : ∀(fuel:Nat) (listed:Array Bool) (a:Act) (w:World),wpAnyIn Fence.wide 0 P .any l.toArray Q fuel listed a w→wpAnyIn (Fence.wide.inRound lb) 0 P .any l.toArray Q fuel listed a w:=by
  intro fuel
  induction fuel with
  | zero=>intro listed a w h; exact h
  | succ fuel ih =>
    intro listed a w h
    refine⟨h.1,fun i hi => ?_⟩
    have h:=h.2 i hi
    unfold wpOpIn at h ⊢
    cases ho:l.toArray[i]? with
    | none=>rw [ho] at h; exact ih _ _ _ h
    | some o =>
      rw [ho] at h
      dsimp only at h ⊢
      split
      · rename_i hw
        rw [if_pos hw] at h
        exact Oper.wpIn_mono (fun a w h=>ih _ _ _ h) (opInR (noDf_mem hd ho) h)
      · rename_i hw
        rw [if_neg hw] at h
        exact⟨fun _ _=>trivial,ih _ _ _ h.2⟩
theorem rsI {P:Program} {Q:Exit→Act→World→Prop} {l:List Oper} {id lb:Nat} {n:NF} {J:Nat→Value} {L:List (Nat×Value)} {T:Nat→Prop} {w:World} (fl:List Nat) (ord:List Nat) (hm:P.follows .mixedOrders=true) (hB:serB l fl ord=true) (hd:Z2b l=true) (hb:Bd T w)
    (k : ∀ w',Inn w.heap.size noB T w T w' → K6 P l fl (NoPanic Q) [] ord (env n J L) w'):(Code.region id l.toArray true).wpIn (Fence.wide.inRound lb) 0 P Q (env n J L) w:=by
  refine wpIn_mono (Q:=NoPanic Q) (wpIn_region_any hm ?_) fun e a w h=>by cases e <;> first | exact h | exact h.elim
  have:=Z4o hB (Q:=NoPanic Q) (fun _ _ _ _ _ h=>h.elim) (k w.drew ((Inn.refl hb (Nat.le_refl _)).ch0 (Ch.drew noB w)))
  exact anyInR hd _ _ _ _ (by simpa using this)
end Go.Proofs.YtecakklofhfphaaGreatDoor
