/- A range over a function that writes what it captures, and through a pointer into what the loop's body owns. It holds for every program. -/
import Derived.Test.YtecakklofhfphaaGreatDoorKRange
set_option linter.unusedVariables false
namespace Go.Proofs.YtecakklofhfphaaGreatDoor

/-- A place in the first of many. -/
theorem lnStar {b o:Nat} {H:List Value→Z4} (hL:Ln b o H) (L:List Z4):Ln b o (fun cs=>Q3 (H cs::L)) where
  rd:=fun⟨fs,h,hf⟩=>hL.rd (h.1 0 (by simp [X1]))
  wr:=fun {T w F cs} ⟨fs,h,hf⟩ hn=>by
    have hlt:0 < X1 (H cs::L):=by simp [X1]
    have h0:(H cs).P T w (fs 0):=h.1 0 hlt
    obtain⟨blk,e,hg,hF,hsz,hwr⟩:=hL.wr h0 fun k hk=>hn k ((hf k).2 ⟨0,hlt,hk⟩)
    refine⟨blk,e,hg,(hf b).2 ⟨0,hlt,hF⟩,hsz,fun j new hj h1=>⟨fs,⟨fun i hi => ?_,fun a c k ha hc x1 x2 => ?_⟩,fun k => ?_⟩⟩
    · cases i with
      | zero=>exact hwr j new hj h1
      | succ i =>
        have hi' : i+1 < X1 (H cs::L):=by simpa [X1] using hi
        refine(atA (H cs::L) (i+1)).loc (h.1 (i+1) hi') (fun _ h=>h) fun k hk => ?_
        have hkb:k ≠ b:=fun e=>by
          subst e
          rcases hk with hk | hk
          · exact hn k ((hf k).2 ⟨0,hlt,hF⟩) hk
          · have:=h.2 0 (i+1) k hlt hi' hF hk
            omega
        exact setRow_other w b k _ hkb
    · exact h.2 a c k (by simpa [X1] using ha) (by simpa [X1] using hc) x1 x2
    · rw [hf k]; simp [X1]

/-- What the loop's body owns, seen by an iterator that holds a pointer to a number in it. -/
def Uy {σ ε : Type} (H : σ → List Value→Z4) (N:Lp (Int × σ) ε → Z4):Lp (Int × σ) ε → Z4
  | .go s=>H s.2 [.int .i64 s.1]
  | z=>N z
theorem Uy_eq {σ ε : Type} {H : σ → List Value→Z4} {N:Lp (Int × σ) ε → Z4} (h : ∀ x s,H s [.int .i64 x]=N (.go (x,s))):Uy H N=N:=by
  funext z
  cases z with
  | go s=>exact h s.1 s.2
  | brk s=>rfl
  | ret r=>rfl

theorem rfG {σ ε α : Type} {P:Program} {gop:Operand} {ps:Array Tmp} {assign body:Code} {Q:Exit→Act→World→Prop} {n:NF} {J:Nat→Value} {L:List (Nat×Value)} {g w:World} {T:Nat→Prop} {A C C2:Z4} {Yz:Lp σ ε → Z4} {s0 : σ} {o:Lp σ ε}
    {yb : σ → α → Option (Lp σ ε)} {encs : α → Array Value} {jump:Lp σ ε → Option Code} {gf:FuncId} {lb:Array Value} {Lx : α → List (Nat×Value)}
    (hg:ev n J L gop = .func (.func gf) #[] lb) (hok:Q7 P gf) (hS:Sep g T w [A,C,Yz (.go s0)]) (hj : ∀ z,z.isGo=(jump z).isNone) (hps : ∀ x,(encs x).size=ps.size)
    (hassign : ∀(l:Nat) (x : α) (w1:World) (K:Act→World→Prop),K (env (nf n.n) J (Lx x)) w1 →
      assign.wpIn (Fence.wide.inRound l) 0 P (Exit.then K fun _ _ _=>False) {tmps:=(ps.zip (encs x)).foldl (fun t (p,v)=>t.setIfInBounds p v) (env n J L).tmps,defers := []} w1)
    (hbody : ∀(l:Nat) (T1:Nat→Prop) (w1:World) (s : σ) (x : α) (z:Lp σ ε) (R:Z4),Im T w T1 w1→Sep g T1 w1 [R,Yz (.go s)]→yb s x=some z→body.wpIn (Fence.wide.inRound l) 0 P (rndPost g T1 w1 R (Yz z) (jump z)) (env (nf n.n) J (Lx x)) w1)
    (hit : ∀(l:Nat) (T1:Nat→Prop) (w1:World) (R:Z4) (U:Lp σ ε → Z4) (Aq:Option Code→Z4) (Bq:Z4),(∀ z,U z=Q3 [Yz z,Aq (jump z),Bq])→Im T w T1 w1→Sep g T1 w1 [R,C,U (.go s0)] →
      (∀(T2:Nat→Prop) (w2:World) (s : σ) (x : α) (z:Lp σ ε) (R:Z4),Im T1 w1 T2 w2→Sep g T2 w2 [R,U (.go s)]→yb s x=some z→Y0l P l (encs x) T2 w2 fun T3 w3 b=>b=z.isGo∧Sep g T3 w3 [R,U z]) →
      CallsIn Fence.wide 0 P gf (#[.func (.yield l) #[] #[]]++lb) w1 (Y4 T1 w1 fun T3 w3 v=>Sep g T3 w3 [R,C2,U o]))
    (hk : ∀(T1:Nat→Prop) (w1:World) (D:Nat),Im T w T1 w1→Sep g T1 w1 [A,C2,Yz o,Q1o D (.deferred (some []))] →
      (match jump o with
      | none=>Q .normal (env ⟨n.n,{target := .collected D,args := #[]} :: n.ds⟩ J L) w1
      | some c=>c.wp P Q (env ⟨n.n,{target := .collected D,args := #[]} :: n.ds⟩ J L) w1)) :
    (Code.rangeFunc gop ps assign body).wp P Q (env n J L) w:=by
  refine(wpIn_wide (n:=0)).1 (wpIn_rangeFunc fun fn _ => ?_)
  obtain⟨rec,hrec⟩ : ∃ rec:LoopState→Option Code→Loop,rec=fun st pe => {state:=st,pending:=pe,fn,tmps:=(env n J L).tmps,params:=ps,assign,body,defers:=w.heap.size} := ⟨_,rfl⟩
  obtain⟨i1,hS1⟩:=hS.newObj (.deferred (some []))
  obtain⟨i2,hS2⟩:=hS1.newObj (.loop (rec .ready none))
  rw [World.size_alloc] at hS2
  obtain⟨W1,hW1⟩ : ∃ W1,(w.alloc (.deferred (some []))).alloc (.loop (rec .ready none))=W1:=⟨_,rfl⟩
  rw [hW1] at hS2 i2
  have i12:Im T w T W1:=i1.trans i2
  let st:Lp σ ε → LoopState:=fun z=>if (jump z).isNone then .ready else .done
  let U:Lp σ ε → Z4:=fun z=>Q3 [Yz z,Q1o (w.heap.size+1) (.loop (rec (st z) (jump z))),Q1o w.heap.size (.deferred (some []))]
  have hgo : ∀ s,jump (.go s)=none:=fun s=>by
    have:=hj (.go s)
    cases h:jump (.go s) with
    | none=>rfl
    | some c=>rw [h] at this; cases this
  have hU0:Sep g T W1 [A,C,U (.go s0)]:=by
    have h1:=hS2.bun [4,0,1] [2,3] rfl
    have h2:Sep g T W1 [A,C,Q3 [Yz (.go s0),Q1o (w.heap.size+1) (.loop (rec .ready none)),Q1o w.heap.size (.deferred (some []))]]:=h1.sel [1,2,0] rfl
    have e:U (.go s0)=Q3 [Yz (.go s0),Q1o (w.heap.size+1) (.loop (rec .ready none)),Q1o w.heap.size (.deferred (some []))]:=by
      simp only [U,st,hgo]; rfl
    rw [e]; exact h2
  obtain⟨fn1,c1,c2,c3⟩:=hok.ex
  refine⟨w.heap.size+1,[{target := .collected w.heap.size,args := #[]}],W1,{target := .fn (.func gf) lb,args := #[.func (.yield (w.heap.size+1)) #[] #[]]},W1,gf,
    #[.func (.yield (w.heap.size+1)) #[] #[]]++lb,W1,?_,?_,fun _ _=>trivial,?_,fun h=>(by cases h),?_⟩
  · rw [← hW1,hrec]; exact run_enterLoop_outer _ _ _ _ _
  · have hg' : (env n J L).eval gop = .func (.func gf) #[] lb:=by rw [K7]; exact hg
    simp only [resolve,hg']
    simp [go_sem]
  · exact Q0z (w:=W1) c1 c2 c3 _
  · refine(hit (w.heap.size+1) T W1 A U (fun j=>Q1o (w.heap.size+1) (.loop (rec (if j.isNone then .ready else .done) j))) (Q1o w.heap.size (.deferred (some []))) (fun _=>rfl) i12 hU0 ?_).mono ?_
    · intro T2 w2 s x z R i hR hz
      -- one round
      have hR1:Sep g T2 w2 [Yz (.go s),Q1o (w.heap.size+1) (.loop (rec .ready none)),Q1o w.heap.size (.deferred (some [])),R]:=by
        have h1:Sep g T2 w2 (U (.go s) :: [R]):=hR.sel [1,0] rfl
        have h2:=Sep.unb h1
        simp only [st,hgo] at h2
        exact h2
      have hl:=(hR1.obj 1 rfl rfl).1
      have hy:=run_yield (P:=P) (args:=encs x) hl (by rw [hrec]; exact hps x)
      rw [hrec] at hy
      refine⟨fn,_,assign,body,hy,roundIn_of_wpIn trivial (hassign _ x w2 _ ⟨_,run_beginRound hl (by rw [hrec]),?_⟩)⟩
      obtain⟨i3,hR2⟩:=hR1.setObj 1 rfl rfl (.loop {rec .ready none with state := .busy})
      have hR3:Sep g T2 _ [Q3 [Q1o (w.heap.size+1) (.loop {rec .ready none with state := .busy}),Q1o w.heap.size (.deferred (some [])),R],Yz (.go s)]:=Sep.bun hR2 [1,2,3] [0] rfl
      refine wpIn_mono (hbody (w.heap.size+1) T2 _ s x z _ ((i12.trans i).trans i3) hR3 hz) ?_
      rintro e a3 w3 ⟨he,T3,i4,hR4⟩
      have hR5:Sep g T3 w3 [Q1o (w.heap.size+1) (.loop {rec .ready none with state := .busy}),Q1o w.heap.size (.deferred (some [])),R,Yz z]:=Sep.unb hR4
      have hl3:=(hR5.obj 0 rfl rfl).1
      have fin : ∃ v w',(Instr.endRound (w.heap.size+1) (jump z)).run P w3 = .ok v w' ∧ ∃ b,Ending.returned v = .returned (.bool b) ∧ ∃ T',Im T2 w2 T' w' ∧ (b=z.isGo∧Sep g T' w' [R,U z]):=by
        have hr:=run_endRound (P:=P) (jump z) hl3
        obtain⟨i5,hR6⟩:=hR5.setObj 0 rfl rfl (.loop {rec .ready none with state:=if (jump z).isNone then .ready else .done,pending:=jump z})
        refine⟨_,_,hr,_,rfl,T3,(i3.trans i4).trans i5,(hj z).symm,?_⟩
        have h7:=(Sep.bun hR6 [3,0,1] [2] rfl).sel [1,0] rfl
        rw [hrec] at h7
        simp only [U,st,hrec]
        exact h7
      cases e with
      | normal=>obtain he:=Option.some.inj he; rw [← he] at fin; obtain⟨v,w',h1,h2⟩:=fin; exact⟨v,w',h1,h2⟩
      | ret=>obtain he:=Option.some.inj he; rw [← he] at fin; obtain⟨v,w',h1,h2⟩:=fin; exact⟨v,w',h1,h2⟩
      | exit id=>obtain he:=Option.some.inj he; rw [← he] at fin; obtain⟨v,w',h1,h2⟩:=fin; exact⟨v,w',h1,h2⟩
      | goto t=>obtain he:=Option.some.inj he; rw [← he] at fin; obtain⟨v,w',h1,h2⟩:=fin; exact⟨v,w',h1,h2⟩
      | panic ch=>cases he
      | outgrown=>cases he
    · rintro e w3 ⟨v,rfl,T3,i3,hR⟩
      have hR1:Sep g T3 w3 [Yz o,Q1o (w.heap.size+1) (.loop (rec (st o) (jump o))),Q1o w.heap.size (.deferred (some [])),A,C2]:=by
        have h1:Sep g T3 w3 (U o :: [A,C2]):=hR.sel [2,0,1] rfl
        exact Sep.unb h1
      have hl:=(hR1.obj 1 rfl rfl).1
      obtain⟨i4,hR2⟩:=hR1.setObj 1 rfl rfl (.loop {rec (st o) (jump o) with state := .exhausted})
      have hb:(rec (st o) (jump o)).state ≠ .busy:=by
        rw [hrec]
        show st o ≠ .busy
        simp only [st]
        split <;> simp
      have hend:(Instr.endLoop (w.heap.size+1)).run P w3 = .ok (jump o) (w3.putObj (w.heap.size+1) (.loop {rec (st o) (jump o) with state := .exhausted})):=by
        rw [run_endLoop (P:=P) hl hb]; simp only [hrec]
      have hfin:=hk T3 _ w.heap.size ((i12.trans i3).trans i4) (hR2.sel [3,4,0,2] rfl)
      refine⟨jump o,_,hend,?_⟩
      cases hjo:jump o with
      | none=>rw [hjo] at hfin; exact hfin
      | some c=>rw [hjo] at hfin; exact(wpIn_wide (n:=0)).2 hfin

end Go.Proofs.YtecakklofhfphaaGreatDoor
