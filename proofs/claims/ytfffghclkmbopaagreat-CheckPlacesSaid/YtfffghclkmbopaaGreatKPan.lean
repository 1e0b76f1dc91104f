/- Panics: calls that panic, the operation itself, and a function that ends so. It holds for every program. -/
import Derived.Test.YtfffghclkmbopaaGreatKAct
import Derived.Test.YtfffghclkmbopaaGreatKTree
import Derived.Recover
import Derived.WideLaws
set_option linter.unusedVariables false
namespace Go.Proofs.YtfffghclkmbopaaGreat

abbrev exR {E R:Type} (y:Except E R) (A:R→Ending→World→Prop) (B:E→Ending→World→Prop):Ending→World→Prop:=match y with
  | .ok x=>A x
  | .error e=>B e
def A5 (T:Nat→Prop) (w:World) (R:(Nat→Prop)→World→Value→Prop) (e:Ending) (w' : World):Prop :=
  ∃ v,e = .panicked [{v,recovered:=false}] ∧ ∃ T',Im T w T' w' ∧ R T' w' v

section
variable {P:Program} {ops:Array Oper} {Q:Exit→Act→World→Prop} {rest:List Oper} {n:NF} {J:Nat→Value} {L:List (Nat×Value)} {w w' : World}
  {d:Nat} {dst:Option Tmp} {ty:TypeId} {pos:String} {aft:Array Edge} {v:Value} {x:Operand} {T:Nat→Prop} {KK:Act→World→Prop}

theorem Q7m {f:FuncId} {fo:Operand} {ca:Array Value} {args:List Value} {xs:Array Operand} {tys:Array TypeId} {R:(Nat→Prop)→World→Value→Prop} (hok:Y3 P f) (hf:ev n J L fo = .func (.func f) #[] ca) (hc:Calls P f args.toArray w (A5 T w R)) (ha:xs.toList.map (ev n J L)++ca.toList=args)
    (k : ∀ v T' w',Im T w T' w' → R T' w' v→Q (.panic [{v,recovered:=false}]) (env n J L) w') :
    Oper.wp P ⟨dst,.call ⟨.value fo,xs,tys⟩,ty,pos,aft,none⟩ (env n J L) w KK Q:=by
  obtain⟨fn,h1,h2,h3⟩:=hok.ex;subst ha;have hm:(xs.map (ev n J L))++ca=(xs.toList.map (ev n J L)++ca.toList).toArray:=by apply Array.ext'; simp
  have hr:=Z1h (w:=w) h1 h2 h3 (xs.map (ev n J L)++ca)
  have he:(execOp (ev n J L) ⟨dst,.call ⟨.value fo,xs,tys⟩,ty,pos,aft,none⟩).run P w = .ok (.enter f (xs.toList.map (ev n J L)++ca.toList).toArray) w:=by
    simp only [execOp,resolve,hf,Deferred.ofValue,invoke,Array.empty_append,pure_bind]
    rw [hr,hm]
  unfold Oper.wp;rw [W3,he,Oper.upon_enter];refine hc.mono ?_;rintro e w1 ⟨v,rfl,T',i,r⟩;exact k v T' w1 i r
theorem panO {t:TypeId} {u:Value} (hx:ev n J L x = .iface t u) (k:Q (.panic [{v := .iface t u,recovered:=false}]) (env n J L) w):Oper.wp P ⟨none,.panic x,ty,pos,aft,none⟩ (env n J L) w KK Q:=by
  have he:(execOp (ev n J L) ⟨none,.panic x,ty,pos,aft,none⟩).run P w = .halt (.panic (.iface t u)) w:=by
    simp [execOp,hx,Instr.panic,goPanic,go_sem]
  unfold Oper.wp;rw [W3,he];exact k
theorem r_mif {t:TypeId} {u:Value} {fs:Array Field} (hx:ev n J L x=u) (ht:P.underlying t=some (.struct fs)):(execOp (ev n J L) ⟨some d,.makeInterface t x,ty,pos,aft,none⟩).run P w = .ok (.value (.iface t u)) w:=by
  simp [execOp,hx,Instr.makeInterface,run_underlying ht]
theorem panE {m:Nat} {fn:Func} {R:Ending→World→Prop} {c:List PanicEntry} (hR:R (.panicked c) w):bodyPost P fn R (.panic c) (env (nf m) J L) w:=⟨rfl,hR⟩
end

section
variable {P:Program} {Q:Exit→Act→World→Prop} {K:Act→World→Prop} {a:Act} {w:World} {c:List PanicEntry} {i:Nat} {l:List Oper}
theorem Y7o (h:Q (.panic c) a w):Exit.then K Q (.panic c) a w:=h
theorem p_blk (h:Q (.panic c) a w):Exit.inBlock i Q (.panic c) a w:=h

def PQ (l:List Oper) (Q:Exit→Act→World→Prop):Prop := ∀ c a i v w,Q (.panic c) (Act.put a (Q1f l i) v) w→Q (.panic c) a w
theorem V9 (h:PQ l Q):PQ l (Exit.then K Q):=h
theorem S4 (h:PQ l Q):PQ l (Exit.inBlock i Q):=h
theorem Y3g (a:Act) (x:Option Tmp) (v:Value):(a.put x v).defers=a.defers:=by cases x <;> rfl
theorem P8 {fn:Func} {R:Ending→World→Prop} : PQ l (bodyPost P fn R):=fun c a i v w h=>by
  obtain⟨h1,h2⟩:=h
  exact⟨(Y3g a _ v) ▸ h1,h2⟩

def rsFree (l:List Oper) (rs:List ResultVar):Bool:=l.all fun o=>match o.dst with
  | some d=>rs.all fun r=>match r with
    | .tmp t => !Nat.beq t d
    | .cell t _ => !Nat.beq t d
  | none=>true
theorem X1m (a:Act) {d t:Nat} (v:Value) (h:Nat.beq t d=false):(a.put (some d) v).tmps.getD t undef=a.tmps.getD t undef:=by
  have hne:d ≠ t:=fun e=>by subst e; simp at h
  simp only [Act.put,Array.getD_eq_getD_getElem?,Array.getElem?_setIfInBounds_ne hne]
theorem Y7i {fn:Func} {rs:List ResultVar} (hr:fn.results=rs.toArray) (hf:rsFree l rs=true) (a:Act) (i:Nat) (v:Value):results fn (a.put (Q1f l i) v).tmps=results fn a.tmps:=by
  cases hd:Q1f l i with
  | none=>rfl
  | some d =>
    have hall : ∀ r ∈ rs,(match r with | .tmp t => !Nat.beq t d | .cell t _ => !Nat.beq t d)=true:=by
      unfold Q1f at hd;cases ho:l[i]? with
      | none=>rw [ho] at hd; cases hd
      | some o =>
        rw [ho] at hd;have:=List.all_eq_true.1 hf o (List.mem_of_getElem? ho);rw [show o.dst=some d from hd] at this;exact List.all_eq_true.1 this
    have hg : ∀ r ∈ rs,Z8j (a.put (some d) v).tmps r=Z8j a.tmps r:=fun r hr=>by
      have h:=hall r hr;cases r with
      | tmp t=>simp only [Z8j]; rw [X1m a v (by simpa using h)]
      | cell t ty=>simp only [Z8j]; rw [X1m a v (by simpa using h)]
    have hm : ∀ tm,results fn tm=(do
        let vs ← fn.results.mapM (Z8j tm)
        pure (if h:vs.size=1 then vs[0] else .tuple vs)):=fun tm=>by
      unfold results
      rfl
    rw [hm,hm,hr,List.mapM_toArray,List.mapM_toArray]
    have hl : ∀(q:List ResultVar),(∀ r ∈ q,r ∈ rs)→q.mapM (Z8j (a.put (some d) v).tmps)=q.mapM (Z8j a.tmps):=by
      intro q
      induction q with
      | nil=>intro _; rfl
      | cons r q ih =>
        intro hq;rw [List.mapM_cons,List.mapM_cons,hg r (hq r (by simp)),ih fun r hr=>hq r (by simp [hr])]
    rw [hl rs fun _ h=>h]
theorem Z9c {fn:Func} {R:Ending→World→Prop} {t1 t2:Array Value} (h:results fn t1=results fn t2) : ∀(ds:List Deferred) (u:FrameMode) (w:World),Leaves P fn t1 R ds u w→Leaves P fn t2 R ds u w
  | [],.returning,w,hl=>by obtain⟨v,h1,h2⟩:=hl; exact⟨v,h ▸ h1,h2⟩
  | [],.panicking _,w,hl=>hl
  | [],.run,w,hl=>hl.elim
  | d::ds,u,w,hl=>by
    obtain⟨h1,fv,cap,f,args,h2,h3,h4⟩:=hl
    refine⟨h1,fv,cap,f,args,h2,h3,h4.mono fun e u' w' he => ?_⟩
    cases e with
    | returned v=>exact Z9c h ds _ _ he
    | panicked c=>exact Z9c h ds _ _ he
    | outgrown=>exact he
theorem Y8z {fn:Func} {R:Ending→World→Prop} {rs:List ResultVar} (hr:fn.results=rs.toArray) (hf:rsFree l rs=true):PQ l (bodyPostD P fn R):=fun c a i v w h=>by
  have h' : Leaves P fn (a.put (Q1f l i) v).tmps R (a.put (Q1f l i) v).defers (.panicking c) w:=h
  rw [Y3g] at h'
  exact Z9c (Y7i hr hf a i v) _ _ _ h'
end

section
variable {P:Program} {Q:Exit→Act→World→Prop} {n:NF} {J:Nat→Value} {L:List (Nat×Value)} {w:World} {l:List Oper} {T:Nat→Prop} {pd:List (Nat×Value)} {fl:List Nat}
theorem rsP {id:Nat} (fl:List Nat) (ord:List Nat) (hm:P.follows .mixedOrders=true) (hB:serB l fl ord=true) (hb:Bd T w) (hQ:PQ l Q)
    (k : ∀ w',Inn w.heap.size noB T w T w' → C7 P l fl Q [] ord (env n J L) w'):(Code.region id l.toArray true).wp P Q (env n J L) w:=by
  refine(wpIn_wide (n:=0)).1 (wpIn_region_any hm ?_);have:=Y6f hB (Q:=Q) hQ (k w.drew ((Inn.refl hb (Nat.le_refl _)).ch0 (Ch.drew noB w)))
  simpa using this
theorem seP (h:Q .normal (env n J L) w):C7 P l fl Q pd [] (env n J L) w:=h
theorem rtP {id:Nat} (fl:List Nat) (ord:List Nat) (hm:P.follows .mixedOrders=true) (hB:trB l fl ord=true) (hb:Bd T w) (hQ:PQ l Q)
    (k : ∀ w',Inn w.heap.size noB T w T w' → Q0q P l fl Q ord.length [] ord (env n J L) w'):(Code.region id l.toArray true).wp P Q (env n J L) w:=by
  refine(wpIn_wide (n:=0)).1 (wpIn_region_any hm ?_);have:=Y8s hB (Q:=Q) hQ (k w.drew ((Inn.refl hb (Nat.le_refl _)).ch0 (Ch.drew noB w)))
  simpa using this
theorem teP {m:Nat} (h:Q .normal (env n J L) w):Q0q P l fl Q m pd [] (env n J L) w:=by
  cases m with
  | zero=>exact⟨rfl,h⟩
  | succ m=>exact h
end

/-! ## Functions that defer a call -/
section
variable {P:Program} {Q:Exit→Act→World→Prop} {n:NF} {J:Nat→Value} {L:List (Nat×Value)} {w:World} {ops:Array Oper} {KK:Act→World→Prop} {ty:TypeId} {pos:String} {aft:Array Edge} {x:Operand}
theorem Y5d {f:FuncId} {fn:Func} {cd:Code} {args:List Value} {R:Ending→World→Prop} {m:Nat} (hf:P.funcs[f]? = some fn) (hb:fn.body=some cd) (hm:fn.ntmps=m) (hl:Nat.ble args.length m=true)
    (h : ∀ J,cd.wp P (bodyPostD P fn R) (env (nf m) J (Y2r 0 args)) w):Calls P f args.toArray w R:=by
  refine calls_of_wp_defers hf hb ?_;have hl' : args.length≤m:=Nat.le_of_ble_eq_true hl
  have e:(⟨args.toArray++Array.replicate (fn.ntmps - args.toArray.size) undef,[]⟩:Act)=env (nf m) (fun i=>args.getD i undef) []:=by
    unfold env
    congr 1
    apply Array.ext
    · simp; omega
    · intro i h1 h2;have him:i < m:=by simpa using h2
      by_cases hi:i < args.length
      · simp [lk,hi,List.getD]
      · simp [lk,hi,Array.getElem_append,List.getD]
  rw [e];have hz:Has (nf m) (fun i=>args.getD i undef) [] (Y2r 0 args):=Y1a _ args 0 fun i v hv=>by simp [List.getD,hv]
  have:env (nf m) (fun i=>args.getD i undef) []=env (nf m) (lk (fun i=>args.getD i undef) []) (Y2r 0 args):=by unfold env; rw [Y4w (nf m) _ [] _ hz]
  rw [this];exact h _
theorem dfO {f:FuncId} {cap:Array Value} (hx:ev n J L x = .func (.func f) #[] cap) (k:KK (env ⟨n.n,⟨.fn (.func f) cap,#[]⟩::n.ds⟩ J L) w):Oper.wp P ⟨none,.defer ⟨.value x,#[],#[]⟩,ty,pos,aft,none⟩ (env n J L) w KK Q:=by
  have he:(execOp (ev n J L) ⟨none,.defer ⟨.value x,#[],#[]⟩,ty,pos,aft,none⟩).run P w = .ok (.defer ⟨.fn (.func f) cap,#[]⟩) w:=by
    simp [execOp,resolve,hx,Deferred.ofValue,go_sem]
  unfold Oper.wp;rw [W3,he,Oper.upon_defer];exact k

end

def EndO (R:World→Prop):Exit→Act→World→Prop
  | .normal,a,w=>a.defers = []∧R w
  | .ret,a,w=>a.defers = []∧R w
  | _,_,_=>False
section
variable {P:Program} {w:World} {J:Nat→Value} {L:List (Nat×Value)}
theorem Y8f {args:List Value} {m:Nat} (hl:Nat.ble args.length m=true) : ∃ J,(⟨args.toArray++Array.replicate (m - args.toArray.size) undef,[]⟩:Act)=env (nf m) J (Y2r 0 args):=by
  have hl' : args.length≤m:=Nat.le_of_ble_eq_true hl
  have e:(⟨args.toArray++Array.replicate (m - args.toArray.size) undef,[]⟩:Act)=env (nf m) (fun i=>args.getD i undef) []:=by
    unfold env
    congr 1
    apply Array.ext
    · simp; omega
    · intro i h1 h2;have him:i < m:=by simpa using h2
      by_cases hi:i < args.length
      · simp [lk,hi,List.getD]
      · simp [lk,hi,Array.getElem_append,List.getD]
  rw [e];have hz:Has (nf m) (fun i=>args.getD i undef) [] (Y2r 0 args):=Y1a _ args 0 fun i v hv=>by simp [List.getD,hv]
  exact⟨lk (fun i=>args.getD i undef) [],by unfold env; rw [Y4w (nf m) _ [] _ hz]⟩
theorem lk_here {t:Nat} {v:Value} {m:Nat} (ht:Nat.blt t m=true):ev (nf m) J ((t,v)::L) (.tmp t)=v:=by
  simp only [ev,lk]
  rw [ht]
  simp
theorem X1a {P:Program} {fn:Func} {c₀ : Frame} {cs:List Frame} {u' : FrameMode} {R' : World→Prop} {c₁ : Frame} (hc:c₁ = {c₀ with mode:=u' }) (hr:fn.results = #[]) {X:Code} {a:Act} (h:X.wp P (EndO R') a w) :
    X.wpS P (bodyPostS P fn c₀ cs fun e u w' => e = .returned (.tuple #[])∧u=u' ∧ R' w') a (c₁ :: cs) w:=by
  subst hc;refine wpS_of_wp (Code.wp_mono (fun e a w he => ?_) h);cases e with
  | normal=>exact⟨he.1,u',rfl,.tuple #[],by simp [results,hr],rfl,rfl,he.2⟩
  | ret=>exact⟨he.1,u',rfl,.tuple #[],by simp [results,hr],rfl,rfl,he.2⟩
  | exit i=>exact he.elim
  | goto i=>exact he.elim
  | panic c=>exact he.elim
  | outgrown=>exact he.elim
section
variable {f:FuncId} {fn:Func} {args:List Value} {m:Nat} {i:Nat} {t u:Tmp} {q q2 y1 y2:TypeId} {s1 s2:String} {f1 f2:Array Edge} {tys:Array TypeId} {X Y:Code} {R' : World→Prop}
end

theorem retD {m:Nat} {fn:Func} {R:Ending→World→Prop} {f:FuncId} {cap:Array Value} (hok:Y3 P f) (hc:CallsD P f cap .returning w fun e u' w' => e = .returned (.tuple #[])∧u' = .returning ∧ ∃ v,(results fn (env ⟨m,[⟨.fn (.func f) cap,#[]⟩]⟩ J L).tmps).run P w' = .ok v w' ∧ R (.returned v) w') :
    bodyPostD P fn R .ret (env ⟨m,[⟨.fn (.func f) cap,#[]⟩]⟩ J L) w:=by
  obtain⟨g,h1,h2,h3⟩:=hok.ex;refine leaves_cons (by simp) (f:=f) (args:=cap) ?_ (hc.mono ?_)
  · have:=Z1h (w:=w) h1 h2 h3 (#[]++cap)
    simpa [invoke] using this
  · rintro e u' w' ⟨rfl,rfl,v,hv,hR⟩;exact⟨v,hv,hR⟩
theorem panD {m:Nat} {fn:Func} {R:Ending→World→Prop} {f:FuncId} {cap:Array Value} {t0:TypeId} {u0:Value} (hok:Y3 P f) (hc:CallsD P f cap (.panicking [{v := .iface t0 u0,recovered:=false}]) w fun e u' w' => e = .returned (.tuple #[])∧u' = .panicking [{v := .iface t0 u0,recovered:=true}] ∧ ∃ v,(results fn (env ⟨m,[⟨.fn (.func f) cap,#[]⟩]⟩ J L).tmps).run P w' = .ok v w' ∧ R (.returned v) w') :
    bodyPostD P fn R (.panic [{v := .iface t0 u0,recovered:=false}]) (env ⟨m,[⟨.fn (.func f) cap,#[]⟩]⟩ J L) w:=by
  obtain⟨g,h1,h2,h3⟩:=hok.ex;refine leaves_cons (by simp) (f:=f) (args:=cap) ?_ (hc.mono ?_)
  · have:=Z1h (w:=w) h1 h2 h3 (#[]++cap)
    simpa [invoke] using this
  · rintro e u' w' ⟨rfl,rfl,v,hv,hR⟩;exact⟨v,hv,hR⟩
theorem L6 {cd:Code} {f:FuncId} {fn:Func} {args:List Value} {m:Nat} {R' : World→Prop} {um:FrameMode} (hf:P.funcs[f]? = some fn) (hb:fn.body=some cd) (hm:fn.ntmps=m) (hl:Nat.ble args.length m=true) (hr:fn.results = #[])
    (h : ∀ J,cd.wp P (EndO R') (env (nf m) J (Y2r 0 args)) w):CallsD P f args.toArray um w fun e u' w' => e = .returned (.tuple #[])∧u' = um∧R' w' := by
  subst hm;obtain⟨J,hJ⟩:=Y8f hl;refine(callsD_of_wp (R:=fun e w' => e = .returned (.tuple #[])∧R' w') hf hb ?_).mono ?_
  · rw [hJ];refine Code.wp_mono (fun e a w he => ?_) (h J);cases e with
    | normal=>exact⟨he.1,.tuple #[],by simp [results,hr],rfl,he.2⟩
    | ret=>exact⟨he.1,.tuple #[],by simp [results,hr],rfl,he.2⟩
    | exit i=>exact he.elim
    | goto i=>exact he.elim
    | panic c=>exact he.elim
    | outgrown=>exact he.elim
  · rintro e u' w' ⟨rfl,rfl,hR⟩;exact⟨rfl,rfl,hR⟩
theorem Q4t {m:Nat} {fn:Func} {R:Ending→World→Prop} {f:FuncId} {cap:Array Value} {v0:Value} (hok:Y3 P f) (hc:CallsD P f cap (.panicking [{v:=v0,recovered:=false}]) w fun e u' w' => e = .returned (.tuple #[])∧u' = .panicking [{v:=v0,recovered:=false}]∧R (.panicked [{v:=v0,recovered:=false}]) w') :
    bodyPostD P fn R (.panic [{v:=v0,recovered:=false}]) (env ⟨m,[⟨.fn (.func f) cap,#[]⟩]⟩ J L) w:=by
  obtain⟨g,h1,h2,h3⟩:=hok.ex;refine leaves_cons (by simp) (f:=f) (args:=cap) ?_ (hc.mono ?_)
  · have:=Z1h (w:=w) h1 h2 h3 (#[]++cap)
    simpa [invoke] using this
  · rintro e u' w' ⟨rfl,rfl,hR⟩;exact hR
theorem panED {m:Nat} {fn:Func} {R:Ending→World→Prop} {c:List PanicEntry} (hR:R (.panicked c) w):bodyPostD P fn R (.panic c) (env (nf m) J L) w:=hR
theorem endO {n:NF} {R' : World→Prop} (hn:n.ds = []) (h:R' w):EndO R' .normal (env n J L) w:=⟨hn,h⟩
end
abbrev recA (i:Nat) (t u:Tmp) (y1 y2:TypeId) (s1 s2:String) (f1 f2:Array Edge) (tys:Array TypeId) (Z:Code):Code :=
  .seq (.region i #[⟨some t,.call ⟨.builtin .recover,#[],tys⟩,y1,s1,f1,none⟩,⟨some u,.assign (.tmp t),y2,s2,f2,none⟩] false) Z
section
variable {P:Program} {w:World} {J:Nat→Value} {L:List (Nat×Value)} {f:FuncId} {fn:Func} {args:List Value} {m:Nat} {i:Nat} {t u:Tmp} {y1 y2:TypeId} {s1 s2:String} {f1 f2:Array Edge} {tys:Array TypeId} {Z:Code} {R' : World→Prop}
theorem recO2 (cs cs' : List Frame) (v:Value) (hv:(match recoverD cs with | some (v,cs')=>(v,cs') | none=>(.nilIface,cs))=(v,cs')) (ht:Nat.blt t m=true)
    {Q:Exit→Act→List Frame→World→Prop} (h:Q .normal (env (nf m) J ((u,v)::(t,v)::L)) cs' w) :
    (Code.region i #[⟨some t,.call ⟨.builtin .recover,#[],tys⟩,y1,s1,f1,none⟩,⟨some u,.assign (.tmp t),y2,s2,f2,none⟩] false).wpS P Q (env (nf m) J L) cs w:=by
  refine wpS_region ?_;show wpOpsS P _ Q [0,1] _ _ _
  have e1:(execOp (ev (nf m) J L) ⟨some t,.call ⟨.builtin .recover,#[],tys⟩,y1,s1,f1,none⟩).run P w = .ok .recover w:=by
    simp [go_sem]
  have e2:(execOp (ev (nf m) J ((t,v)::L)) ⟨some u,.assign (.tmp t),y2,s2,f2,none⟩).run P w = .ok (.value v) w:=by
    have hl:ev (nf m) J ((t,v)::L) (.tmp t)=v:=lk_here ht
    simp [execOp,hl]
  have hw1:Region.wanted (⟨some t,.call ⟨.builtin .recover,#[],tys⟩,y1,s1,f1,none⟩:Oper) (yielded #[⟨some t,.call ⟨.builtin .recover,#[],tys⟩,y1,s1,f1,none⟩,⟨some u,.assign (.tmp t),y2,s2,f2,none⟩] (env (nf m) J L).tmps)=true:=rfl
  have key : ∀(v:Value) (cs:List Frame) w,(execOp (ev (nf m) J ((t,v)::L)) ⟨some u,.assign (.tmp t),y2,s2,f2,none⟩).run P w = .ok (.value v) w→Q .normal (env (nf m) J ((u,v)::(t,v)::L)) cs w →
      wpOpsS P #[⟨some t,.call ⟨.builtin .recover,#[],tys⟩,y1,s1,f1,none⟩,⟨some u,.assign (.tmp t),y2,s2,f2,none⟩] Q [1] (env (nf m) J ((t,v)::L)) cs w:=by
    intro v cs w he hq;unfold wpOpsS
    simp only [List.getElem?_toArray,List.getElem?_cons_succ,List.getElem?_cons_zero]
    have hw2:Region.wanted (⟨some u,.assign (.tmp t),y2,s2,f2,none⟩:Oper) (yielded #[⟨some t,.call ⟨.builtin .recover,#[],tys⟩,y1,s1,f1,none⟩,⟨some u,.assign (.tmp t),y2,s2,f2,none⟩] (env (nf m) J ((t,v)::L)).tmps)=true:=rfl;rw [if_pos hw2,W3,he]
    simp only [Oper.upon,wpOpsS]
    rw [Q6o];exact hq
  unfold wpOpsS
  simp only [List.getElem?_toArray,List.getElem?_cons_zero]
  rw [if_pos hw1,W3,e1]
  simp only
  cases hc:recoverD cs with
  | none =>
    rw [hc] at hv;cases hv
    simp only
    rw [Q6o];exact key _ _ _ e2 h
  | some p =>
    obtain⟨v',cs''⟩:=p;rw [hc] at hv;cases hv
    simp only
    rw [Q6o];exact key _ _ _ e2 h
theorem recN2 (hf:P.funcs[f]? = some fn) (hb:fn.body=some (recA i t u y1 y2 s1 s2 f1 f2 tys Z)) (hm:fn.ntmps=m) (hl:Nat.ble args.length m=true) (hr:fn.results = #[]) (ht:Nat.blt t m=true)
    (h : ∀ J,Z.wp P (EndO R') (env (nf m) J ((u,.nilIface)::(t,.nilIface)::Y2r 0 args)) w) :
    CallsD P f args.toArray .returning w fun e u' w' => e = .returned (.tuple #[])∧u' = .returning∧R' w' := by
  refine callsD_of_wpS hf hb fun c₀ cs hc => ?_;subst hm;obtain⟨J,hJ⟩:=Y8f hl;rw [hJ];refine wpS_seq (recO2 _ (c₀ :: cs) .nilIface ?_ ht ?_)
  · simp [recoverD,hc]
  · exact X1a (by rw [← hc]) hr (h J)
theorem Y6h {t0:TypeId} {u0:Value} (hf:P.funcs[f]? = some fn) (hb:fn.body=some (recA i t u y1 y2 s1 s2 f1 f2 tys Z)) (hm:fn.ntmps=m) (hl:Nat.ble args.length m=true) (hr:fn.results = #[]) (ht:Nat.blt t m=true)
    (h : ∀ J,Z.wp P (EndO R') (env (nf m) J ((u,.iface t0 u0)::(t,.iface t0 u0)::Y2r 0 args)) w) :
    CallsD P f args.toArray (.panicking [{v := .iface t0 u0,recovered:=false}]) w fun e u' w' => e = .returned (.tuple #[])∧u' = .panicking [{v := .iface t0 u0,recovered:=true}]∧R' w' := by
  refine callsD_of_wpS hf hb fun c₀ cs hc => ?_;subst hm;obtain⟨J,hJ⟩:=Y8f hl;rw [hJ];refine wpS_seq (recO2 _ ({c₀ with mode := .panicking [{v := .iface t0 u0,recovered:=true}]} :: cs) (.iface t0 u0) ?_ ht ?_)
  · simp [recoverD,hc]
  · exact X1a rfl hr (h J)
theorem r_eqn {n:NF} {d:Nat} {x:Operand} {q q2 ty:TypeId} {pos:String} {aft:Array Edge} (hx:ev n J L x = .nilIface) (hq:P.underlying q=some (.interface (P.methodsAt q))):(execOp (ev n J L) ⟨some d,.binOp .eql q x (.const .nilIface) q2,ty,pos,aft,none⟩).run P w = .ok (.value (.bool true)) w:=by
  have hc:ev n J L (.const .nilIface) = .nilIface:=rfl;have:=run_eql_nil_nil w q hq
  simp [execOp,hx,hc,this,eqGuard,go_sem]
theorem Y6j {n:NF} {d:Nat} {x:Operand} {q q2 ty t0:TypeId} {u0:Value} {pos:String} {aft:Array Edge} (hx:ev n J L x = .iface t0 u0) (hq:P.underlying q=some (.interface (P.methodsAt q))):(execOp (ev n J L) ⟨some d,.binOp .eql q x (.const .nilIface) q2,ty,pos,aft,none⟩).run P w = .ok (.value (.bool false)) w:=by
  have hc:ev n J L (.const .nilIface) = .nilIface:=rfl;have:=run_eql_held_nil w q t0 u0 hq;have hg:eqGuard .eql q x (.const .nilIface) (.iface t0 u0) .nilIface=pure ():=by cases x <;> rfl
  simp [execOp,hx,hc,this,hg,go_sem]
theorem r_ta {n:NF} {d:Nat} {x:Operand} {src t ty:TypeId} {u0:Value} {pos:String} {aft:Array Edge} (hx:ev n J L x = .iface t u0) (h:(Instr.typeAssert (.iface t u0) src t false).run P w = .ok u0 w):(execOp (ev n J L) ⟨some d,.typeAssert x src t false,ty,pos,aft,none⟩).run P w = .ok (.value u0) w:=by
  simp [execOp,hx,h]
theorem endR {n:NF} {R' : World→Prop} (hn:n.ds = []) (h:R' w):EndO R' .ret (env n J L) w:=⟨hn,h⟩
end
end Go.Proofs.YtfffghclkmbopaaGreat
