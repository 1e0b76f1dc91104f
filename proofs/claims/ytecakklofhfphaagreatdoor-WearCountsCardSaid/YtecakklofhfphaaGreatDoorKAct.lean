/- Operations that make or write memory, told of what a function owns; calls. It holds for every program. -/
import Derived.Test.YtecakklofhfphaaGreatDoorKRes
set_option linter.unusedVariables false
namespace Go.Proofs.YtecakklofhfphaaGreatDoor

def Y4 (T:Nat→Prop) (w:World) (R:(Nat→Prop)→World→Value→Prop) (e:Ending) (w' : World):Prop :=
  ∃ v,e = .returned v ∧ ∃ T',Im T w T' w' ∧ R T' w' v

section
variable {P:Program} {ops:Array Oper} {Q:Exit→Act→World→Prop} {rest:List Oper} {n:NF} {J:Nat→Value} {L:List (Nat×Value)} {w w' w0 g:World}
  {d:Nat} {ty:TypeId} {pos:String} {aft:Array Edge} {op:Op} {v:Value} {x y c:Operand} {t t2:TypeId} {T:Nat→Prop} {KK:Act→World→Prop} {Qa:Act→Prop} {C:World→Prop} {G:List Z4} {q p:Nat}

theorem pv (h:(execOp (ev n J L) ⟨some d,op,ty,pos,aft,none⟩).run P w = .ok (.value v) w) (k:wpList P ops Q rest (env n J ((d,v)::L)) w):wpList P ops Q (⟨some d,op,ty,pos,aft,none⟩::rest) (env n J L) w:=Q0e h k
theorem qv (h : ∀ w,C w→(execOp (ev n J L) ⟨some d,op,ty,pos,aft,none⟩).run P w = .ok (.value v) w) (k:wpQuiet P ops C Qa rest (env n J ((d,v)::L))):wpQuiet P ops C Qa (⟨some d,op,ty,pos,aft,none⟩::rest) (env n J L):=q_val h k

theorem alS {z:Value} {zs:List Value} (hz : ∀ w,(zeroValue t).run P w = .ok z w) (hc:z.cells.toList=zs) (hS:Sep g T w G)
    (k : ∀ w' b,Im T w T w' → Sep g T w' (Y2 b zs::G)→KK (env n J ((d,.pointer (some ⟨b,0,none⟩))::L)) w') :
    Oper.wp P ⟨some d,.alloc t,ty,pos,aft,none⟩ (env n J L) w KK Q :=
  al hz hc hS.lt fun w' b i bx ge nt=>k w' b i.imm (hS.cons i (fun _ h=>h) (F:=(· = b)) ⟨fun k=>Iff.rfl,bx⟩ fun k hk=>by subst hk; exact⟨ge,nt⟩)
theorem bxS {v:Value} {cs:List Value} (hx:ev n J L x=v) (hc:v.cells.toList=cs) (hS:Sep g T w G)
    (k : ∀ w' b,Im T w T w' → Sep g T w' (Y2 b cs::G)→KK (env n J ((d,.pointer (some ⟨b,0,none⟩))::L)) w') :
    Oper.wp P ⟨some d,.box t x,ty,pos,aft,none⟩ (env n J L) w KK Q :=
  bxv hx hc hS.lt fun w' b i bx ge nt=>k w' b i.imm (hS.cons i (fun _ h=>h) (F:=(· = b)) ⟨fun k=>Iff.rfl,bx⟩ fun k hk=>by subst hk; exact⟨ge,nt⟩)

theorem Z7w {cs:List Value} (h:cs.all Value.oneCell' = true) : ∀ u ∈ cs,u.oneCell' = true:=fun u hu=>List.all_eq_true.1 h u hu

theorem Q8o {b o sz:Nat} {cs:List Value} {blk:Array Value} {e:TypeId} (hx:ev n J L x = .pointer (some ⟨b,o,none⟩)) (hy:ev n J L y=v) (hv:v.cells.toList=cs) (hs : ∀ w,(sizeOf t).run P w = .ok sz w) (hl:cs.length=sz)
    (h1:cs.all Value.oneCell' = true) (hg:w.heap[b]? = some (.cells blk e (0,0))) (hfit:o+cs.length≤blk.size) :
    (execOp (ev n J L) ⟨none,.store t x y,ty,pos,aft,none⟩).run P w = .ok .skip (w.setRow b (X9 blk.toList o cs).toArray):=by
  subst hl
  subst hv
  have hst:=run_storeCells_at P b o e v.cells.toList 0 blk w hg (by simpa using hfit) (Z7w h1)
  simp only [Nat.add_zero] at hst
  simp only [execOp,Instr.storeAt,storeVar,hx,hy,Instr.sureAddr,Sem.run_bind,Sem.run_pure,Result.andThen_ok,hs]
  rw [if_neg (by simp)]
  simp only [Result.andThen_ok,hst]
  rfl

theorem stB {H:List Value→Z4} {b o j sz:Nat} {cs cur:List Value} {v:Value} (hS:Sep g T w G) (hi:AtR G q (H cur)) (hL:Ln b o H) (hx:ev n J L x = .pointer (some ⟨b,o+j,none⟩)) (hy:ev n J L y=v) (hv:v.cells.toList=cs)
    (hs : ∀ w,(sizeOf t).run P w = .ok sz w) (hl:cs.length=sz) (h1:cs.all Value.oneCell' = true) (hfit:Nat.ble (j+cs.length) cur.length=true)
    (k : ∀ w',Im T w T w' → Sep g T w' (C6 G q (H (X9 cur j cs)))→KK (env n J L) w') :
    Oper.wp P ⟨none,.store t x y,ty,pos,aft,none⟩ (env n J L) w KK Q:=by
  have hf:=Nat.le_of_ble_eq_true hfit
  obtain⟨blk,e,hg,hsz,him,hS'⟩:=hS.setRow hi hL (Z7w h1) hf
  exact Z5q (Q8o hx hy hv hs hl h1 hg (by omega)) (k _ him hS')
theorem st0B {b j sz:Nat} {cs cur:List Value} {v:Value} (hS:Sep g T w G) (hi:AtR G q (Y2 b cur)) (hx:ev n J L x = .pointer (some ⟨b,j,none⟩)) (hy:ev n J L y=v) (hv:v.cells.toList=cs)
    (hs : ∀ w,(sizeOf t).run P w = .ok sz w) (hl:cs.length=sz) (h1:cs.all Value.oneCell' = true) (hfit:Nat.ble (j+cs.length) cur.length=true)
    (k : ∀ w',Im T w T w' → Sep g T w' (C6 G q (Y2 b (X9 cur j cs)))→KK (env n J L) w') :
    Oper.wp P ⟨none,.store t x y,ty,pos,aft,none⟩ (env n J L) w KK Q :=
  stB hS hi (C3 b) (by rw [Nat.zero_add]; exact hx) hy hv hs hl h1 hfit k

theorem N4 {cur cs:List Value} {o:Nat} (h:o+cs.length≤cur.length):(X9 cur o cs).length=cur.length:=by
  simp [X9]; omega
theorem N5 {cur cs:List Value} {o i:Nat} (h:o+cs.length≤cur.length):(X9 cur o cs)[i]? = if i < o then cur[i]? else if i < o+cs.length then cs[i - o]? else cur[i]? := by
  unfold X9
  by_cases h1:i < o
  · rw [if_pos h1,List.append_assoc,List.getElem?_append_left (by simp; omega),List.getElem?_take,if_pos h1]
  · rw [if_neg h1]
    by_cases h2:i < o+cs.length
    · rw [if_pos h2,List.getElem?_append_left (by simp; omega),List.getElem?_append_right (by simp; omega)]
      congr 1; simp; omega
    · rw [if_neg h2,List.getElem?_append_right (by simp; omega),List.getElem?_drop]
      congr 1; simp; omega

theorem Q4w {css:List (List Value)} {sz:Nat} (hs : ∀ cs ∈ css,cs.length=sz) {i j:Nat} {c0 new:List Value} (hi:css[i]? = some c0) (hj:j+new.length≤sz) :
    (css.set i (X9 c0 j new)).flatten=X9 css.flatten (i * sz+j) new:=by
  induction css generalizing i with
  | nil=>simp at hi
  | cons c css ih =>
    have hc:c.length=sz:=hs c (by simp)
    have hfl:css.flatten.length=css.length * sz:=by
      rw [List.length_flatten]
      have : ∀(l:List (List Value)),(∀ cs ∈ l,cs.length=sz)→(l.map List.length).sum=l.length * sz:=by
        intro l
        induction l with
        | nil=>simp
        | cons a l ih2=>intro h; simp [h a (by simp),ih2 (fun cs hcs=>h cs (by simp [hcs])),Nat.succ_mul,Nat.add_comm]
      exact this css (fun cs hcs=>hs cs (by simp [hcs]))
    cases i with
    | zero =>
      simp at hi
      subst hi
      simp only [List.set_cons_zero,List.flatten_cons,Nat.zero_mul,Nat.zero_add]
      apply List.ext_getElem?
      intro k
      rw [N5 (by simp; omega)]
      rcases Nat.lt_or_ge k c.length with hk | hk
      · rw [List.getElem?_append_left (by rw [N4 (by omega)]; exact hk),N5 (by omega)]
        simp only [List.getElem?_append_left hk]
      · rw [List.getElem?_append_right (by rw [N4 (by omega)]; exact hk),N4 (by omega),if_neg (by omega),if_neg (by omega),List.getElem?_append_right hk]
    | succ i =>
      simp at hi
      have hin:i < css.length:=by
        rcases Nat.lt_or_ge i css.length with h | h
        · exact h
        · rw [List.getElem?_eq_none h] at hi; cases hi
      have hle:i * sz+sz≤css.flatten.length:=by
        rw [hfl,← Nat.succ_mul]
        exact Nat.mul_le_mul_right _ hin
      simp only [List.set_cons_succ,List.flatten_cons]
      rw [ih (fun cs hcs=>hs cs (by simp [hcs])) hi]
      apply List.ext_getElem?
      intro k
      rw [N5 (by rw [List.length_append,hc,Nat.succ_mul]; omega)]
      rcases Nat.lt_or_ge k c.length with hk | hk
      · rw [List.getElem?_append_left hk,if_pos (by rw [Nat.succ_mul]; omega),List.getElem?_append_left hk]
      · rw [List.getElem?_append_right hk,N5 (by omega),List.getElem?_append_right hk]
        have e1:(k - c.length < i * sz+j) ↔ (k < (i+1) * sz+j):=by rw [Nat.succ_mul]; omega
        have e2:(k - c.length < i * sz+j+new.length) ↔ (k < (i+1) * sz+j+new.length):=by rw [Nat.succ_mul]; omega
        have e3:k - c.length - (i * sz+j)=k - ((i+1) * sz+j):=by rw [Nat.succ_mul]; omega
        simp only [e1,e2,e3]

theorem stO {α : Type} {r:Rp α} {e:TypeId} {l:List α} {u u' : α} {b k0 off j cap n0 i sz:Nat} {sv v:Value} {cs:List Value} (hS:Sep g T w G) (hi:AtR G q (Z0 r e sv l)) (hsv:sv = .slice (some ⟨b,k0,none⟩) n0 cap) (hu:l[i]? = some u)
    (ho:off=k0+i * r.sz) (hx:ev n J L x = .pointer (some ⟨b,off+j,none⟩)) (hy:ev n J L y=v) (hv:v.cells.toList=cs) (hs : ∀ w,(sizeOf t).run P w = .ok sz w) (hl:cs.length=sz) (h1:cs.all Value.oneCell' = true)
    (hfit:Nat.ble (j+cs.length) r.sz=true) (hup : ∀ c0,r.rp T w c0 u→r.rp T w (X9 c0 j cs) u')
    (k : ∀ w',Im T w T w' → Sep g T w' (C6 G q (Z0 r e sv (l.set i u')))→KK (env n J L) w') :
    Oper.wp P ⟨none,.store t x y,ty,pos,aft,none⟩ (env n J L) w KK Q:=by
  have hf:=Nat.le_of_ble_eq_true hfit
  obtain⟨F,⟨hc,hF⟩,hn⟩:=hS.getA hi
  obtain⟨css,c1,c2,c3⟩:=hc
  have hsz:=OwS.sizes c1 c3
  have hil:i < l.length:=by
    rcases Nat.lt_or_ge i l.length with h | h
    · exact h
    · rw [List.getElem?_eq_none h] at hu; cases hu
  have hcs:css[i]? = some css[i]:=List.getElem?_eq_getElem (by omega)
  rcases c2.2 with ⟨hz,_⟩ | ⟨b',cap',cur,hv',hb',hgg,hnc,hmx,hcur,htake⟩
  · rw [hsv] at hz; cases hz
  rw [hsv] at hv'
  cases hv'
  rw [Nat.zero_add] at ho
  subst ho
  have hrow:i * r.sz+r.sz≤l.length * r.sz:=by rw [← Nat.succ_mul]; exact Nat.mul_le_mul_right _ hil
  have hcapr:l.length * r.sz≤cap * r.sz:=Nat.mul_le_mul_right _ hnc
  have hfit2:i * r.sz+j+cs.length≤cur.size:=by omega
  have hbF:F b:=(hF b).2 (by rw [hsv]; rfl)
  have hnT : ¬ T b:=hn b hbF
  have hinn:=Z2l hS.lt b (X9 cur.toList (i * r.sz+j) cs).toArray hnT
  refine Z5q (Q8o hx hy hv hs hl h1 hgg hfit2) (k _ hinn.imm ?_)
  refine hS.put q hi.lt hinn fun F' hF' hn' => ?_
  rw [hi.at_] at hF'
  have hF2:=hF'.2
  refine⟨fun k hk=>hk ▸ (hF2 b).2 (by rw [hsv]; rfl),F',⟨⟨css.set i (X9 css[i] j cs),by simp [c1],⟨?_,.inr ⟨b,cap,(X9 cur.toList (i * r.sz+j) cs).toArray,by simpa using hsv,by omega,?_,by simpa using hnc,hmx,?_,?_⟩⟩,?_⟩,hF2⟩,fun k hk=>⟨.inl hk,hn' k hk⟩⟩
  · rw [Q4w hsz hcs hf,N4 (by rw [c2.1]; omega),c2.1]; simp
  · rw [setRow_heap w b _ _ e (0,0) hgg]
  · simp only [List.size_toArray]
    rw [N4 (by simpa using hfit2)]
    simpa using hcur
  · rw [Q4w hsz hcs hf,← htake]
    apply List.ext_getElem?
    intro m
    have hlen:(l.set i u').length=l.length:=by simp
    have htl:(List.take (l.length * r.sz) cur.toList).length=l.length * r.sz:=by simp; omega
    rw [hlen,N5 (by rw [htl]; omega),List.getElem?_take,N5 (by simpa using hfit2),List.getElem?_take]
    by_cases hm:m < l.length * r.sz
    · simp only [hm,if_true]
    · simp only [hm,if_false]
      rw [if_neg (by omega),if_neg (by omega)]
  · intro m c z hc hz
    rw [List.getElem?_set] at hc hz
    by_cases him:i=m
    · subst him
      simp only [if_true,hil,show i < css.length by omega] at hc hz
      cases hc
      cases hz
      exact r.mono hinn.imm (hup _ (c3 i _ u hcs hu))
    · simp only [him,if_false] at hc hz
      exact r.mono hinn.imm (c3 m c z hc hz)

theorem Sep.grow {α : Type} {r:Rp α} {e:TypeId} {v v' : Value} {l l' : List α} (hS:Sep g T w G) (hi:AtR G q (Z0 r e v l)) (i:Inn w.heap.size (ownS v) T w T w') (ho:OwS r e 0 T w' v' l') (hd : ∀ b,b < w.heap.size→Dj v b→Dj v' b) :
    Sep g T w' (C6 G q (Z0 r e v' l')):=by
  refine hS.put q hi.lt i fun F hF hn => ?_
  rw [hi.at_] at hF
  obtain⟨_,hF⟩:=hF
  obtain⟨css,c1,c2,c3,c4⟩:=ho
  refine⟨fun k hk=>(hF k).2 hk,fun k=>v'.ownBlock=some k,⟨⟨css,c1,c2,c3⟩,fun _=>Iff.rfl⟩,fun k hk=>⟨?_,c4 k hk⟩⟩
  rcases Nat.lt_or_ge k w.heap.size with h | h
  · refine .inl ((hF k).2 ?_)
    refine Classical.byContradiction fun hh => ?_
    exact hd k h (fun m hm hmk=>hh (hmk ▸ hm)) k hk rfl
  · exact .inr h

theorem Q6u (base:Nat) (t ty e:TypeId) (i:TypeInfo) (size:Nat) (ht:P.underlying t=some (.slice e)) (hi:P.info? e=some i)
    (v:Value) (n:Nat) (xs:List Value) (hown:w.ownsRow base e size v n xs) (c:Nat):(Builtin.append_ #[t,t] ty #[v,.slice none 0 c]).run P w = .ok v w:=by
  rcases hown.2 with ⟨rfl,rfl⟩ | ⟨g,cap,cur,rfl,_,hg,hnc,_⟩
  · simp [Builtin.append_,run_underlying ht,sizeOf,typeInfo,hi,Builtin.lenOf,Builtin.firstCells]
  · simp [Builtin.append_,run_underlying ht,sizeOf,typeInfo,hi,Builtin.lenOf,Builtin.firstCells,hnc,storeCells]

theorem Sep.same {A:Z4} (hS:Sep g T w G) (hi:AtR G q A):C6 G q A=G:=by
  have:=hi.at_
  have hlt:q < X1 G:=Nat.le_of_ble_eq_true hi.lt
  clear hi hS
  induction G generalizing q with
  | nil=>rfl
  | cons B G ih =>
    cases q with
    | zero=>simp only [atA] at this; rw [← this]; rfl
    | succ q =>
      simp only [atA] at this
      simp only [C6]
      rw [ih this (by simpa [X1] using hlt)]

theorem apO {α : Type} {r:Rp α} {e:TypeId} {l us:List α} {v2:Value} (hS:Sep g T w G) (hi:AtR G q (Z0 r e v l)) (hx:ev n J L x=v) (hy:ev n J L y=v2) (h2:SlV r T w v2 us)
    (ht:P.underlying t=some (.slice e)) (he:A7 P e r.sz) (hroom:l.length+us.length≤8589934592)
    (k : ∀ w' a m c,Im T w T w' → Sep g T w' (C6 G q (Z0 r e (.slice a m c) (l++us)))→KK (env n J ((d,.slice a m c)::L)) w') :
    Oper.wp P ⟨some d,.call ⟨.builtin .append,#[x,y],#[t,t]⟩,ty,pos,aft,none⟩ (env n J L) w KK Q:=by
  have ho:=hS.own hi
  have k' : ∀ v' w',Im T w T w' → OwS r e 0 T w' v' (l++us)→Sep g T w' (C6 G q (Z0 r e v' (l++us)))→KK (env n J ((d,v')::L)) w' := fun v' w' him ho' hs' => by
    obtain⟨a,c,hv'⟩:=ho'.shape
    subst hv'
    exact k w' _ _ _ him hs'
  obtain⟨a,cap,hv,h5,h6,h7⟩:=h2
  have hcore : ∀(b off:Nat),a=some ⟨b,off,none⟩→(∀ i x,us[i]? = some x → ∃ cs,r.rp T w cs x∧cellsAt w b (off+i * r.sz) cs) →
      Oper.wp P ⟨some d,.call ⟨.builtin .append,#[x,y],#[t,t]⟩,ty,pos,aft,none⟩ (env n J L) w KK Q:=by
    intro b off ha hx'
    subst ha
    have hch : ∃ css:List (List Value),css.length=us.length ∧ ∀(i:Nat) (cs:List Value) (u : α),css[i]? = some cs→us[i]? = some u→r.rp T w cs u∧cellsAt w b (off+i * r.sz) cs:=by
      refine⟨(List.range us.length).map fun i=>if h:i < us.length then Classical.choose (hx' i us[i] (List.getElem?_eq_getElem h)) else [],by simp,?_⟩
      intro i cs u hc hu
      have hi:i < us.length:=by
        rcases Nat.lt_or_ge i us.length with h | h
        · exact h
        · rw [List.getElem?_eq_none h] at hu; cases hu
      have hcs:cs=Classical.choose (hx' i us[i] (List.getElem?_eq_getElem hi)):=by
        simp [hi] at hc
        exact hc.symm
      have hu' : u=us[i]:=by rw [List.getElem?_eq_getElem hi] at hu; exact(Option.some.inj hu).symm
      subst hu'
      subst hcs
      exact Classical.choose_spec (hx' i us[i] (List.getElem?_eq_getElem hi))
    obtain⟨css,hl,hcc⟩:=hch
    have hsz:=OwS.sizes hl (fun i cs u hc hu=>(hcc i cs u hc hu).1)
    refine Y1w (us:=us) (css:=css) hx ho (hy.trans hv) hl (fun i cs u hc hu=>(hcc i cs u hc hu).1) ?_ ht he hroom hS.lt (Nat.zero_le _) (fun v' w' inn ho' hd=>k' v' w' inn.imm ho' (hS.grow hi inn ho' hd))
    intro j u hj
    obtain⟨i,z,hi',hz,hsz',hzs,hpos,hby⟩:=he.ex
    have hlt:j < css.flatten.length:=by
      rcases Nat.lt_or_ge j css.flatten.length with h | h
      · exact h
      · rw [List.getElem?_eq_none h] at hj; cases hj
    have hfl:css.flatten.length=css.length * r.sz:=by
      rw [List.length_flatten]
      clear hcc hl hj hlt
      induction css with
      | nil=>simp
      | cons c css ih=>simp [hsz c (by simp),ih (fun cs h=>hsz cs (by simp [h])),Nat.succ_mul,Nat.add_comm]
    have hq:j / r.sz < css.length:=by rw [Nat.div_lt_iff_lt_mul hpos]; omega
    have hm:j % r.sz < r.sz:=Nat.mod_lt _ hpos
    have hcs:css[j / r.sz]? = some css[j / r.sz]:=List.getElem?_eq_getElem hq
    have hcl:=hsz css[j / r.sz] (List.getElem_mem hq)
    have hget:css[j / r.sz][j % r.sz]? = some css[j / r.sz][j % r.sz]:=List.getElem?_eq_getElem (by omega)
    have hflat:=Q1u hsz hcs hget
    have hjd:j / r.sz * r.sz+j % r.sz=j:=Nat.div_add_mod' j r.sz
    rw [hjd] at hflat
    rw [hflat] at hj
    have hul:j / r.sz < us.length:=by omega
    have:=(hcc (j / r.sz) _ us[j / r.sz] hcs (List.getElem?_eq_getElem hul)).2 _ _ hget
    rw [Addr.add_lit,show off+j=off+j / r.sz * r.sz+j % r.sz by omega,this,← hj]
  rcases h7 with h7 | ⟨b,off,ha,hx'⟩
  · subst h7
    cases a with
    | some a =>
      obtain⟨b,off,sp⟩:=a
      obtain⟨i,z,hi',hz,hsz',hzs,hpos,hby⟩:=he.ex
      obtain⟨css,c1,c2,c3,c4⟩:=ho
      refine Y1w (us:=([]:List α)) (css := []) hx ⟨css,c1,c2,c3,c4⟩ (hy.trans hv) rfl (fun i cs u hc hu=>by simp at hc) (fun j u hj=>by simp at hj) ht he (by simpa using hroom) hS.lt (Nat.zero_le _) (fun v' w' inn ho' hd=>k' v' w' inn.imm ho' (hS.grow hi inn ho' hd))
    | none =>
      obtain⟨i,z,hi',hz,hsz',hzs,hpos,hby⟩:=he.ex
      have hown:=ho.c
      obtain⟨css,c1,c2,c3⟩:=hown
      have hrun:=Q6u (P:=P) (w:=w) 0 t ty e i r.sz ht hi' v l.length _ c2 cap
      refine Q8l (w' := w) (v:=v) ?_ (k' v w Im.refl (by rw [List.append_nil]; exact ho) ?_)
      · simp only [execOp,resolve,invoke,builtin,Sem.run_bind,Sem.run_pure,Result.andThen_ok,List.map_toArray,List.map_cons,List.map_nil,hx,hy,hv,hrun,List.length_nil]
      · rw [List.append_nil]
        rw [hS.same hi]
        exact hS
  · exact hcore b off ha hx'

theorem Sep.nilO {α : Type} (hS:Sep g T w G) (r:Rp α) (e:TypeId):Sep g T w (Z0 r e (.slice none 0 0) []::G) :=
  hS.cons (Inn.refl hS.lt (Nat.le_refl _):Inn w.heap.size noB T w T w) (fun _ h=>h) (F:=fun _=>False) ⟨⟨[],rfl,World.ownsRow_nil _ _ _ _,fun i cs x h=>by simp at h⟩,fun k=>by simp [Value.ownBlock]⟩ (fun k hk=>hk.elim)

theorem Sep.seal {α : Type} {r:Rp α} {e:TypeId} {v:Value} {l:List α} (hS:Sep g T w G) (q:Nat) (hi:AtR G q (Z0 r e v l)) : ∃ T',Im T w T' w∧Sep g T' w (C6 G q empA)∧SlR r T' w v l:=by
  have ho:=hS.own hi
  refine⟨sealT T v,fun k hk=>⟨.inl hk,rfl⟩,hS.freeze q hi.lt (fun k=>v.ownBlock=some k) (fun F hF k hk => ?_),ho.sealR⟩
  rw [hi.at_] at hF
  exact(hF.2 k).2 hk

theorem bsS {α : Type} {r:Rp α} {l:List α} {css:List (List Value)} {e:TypeId} {len sz:Nat} {z:Value} {parts:Array (Nat×Operand)} {cells:Array Value} (hS:Sep g T w G) (ht:P.underlying t=some (.slice e)) (hs : ∀ w,(sizeOf e).run P w = .ok sz w) (hz : ∀ w,(zeroValue e).run P w = .ok z w)
    (hle:Nat.ble (len * sz) 16777216=true) (h0:Nat.ble 1 (len * sz)=true) (hf:Instr.fill (fun i=>some (i * sz,sz)) ((Array.range (len * sz)).map (z.cells[· % z.cells.size]!)) (parts.toList.map fun p=>(p.1,ev n J L p.2))=some cells)
    (hcs:cells.toList=css.flatten) (ha:Q7p r T w css l) (hl:l.length=len) (hr:r.sz=sz)
    (k : ∀ w' a m c,Im T w T w' → Sep g T w' (Z0 r e (.slice a m c) l::G)→KK (env n J ((d,.slice a m c)::L)) w') :
    Oper.wp P ⟨some d,.buildSlice t len parts,ty,pos,aft,none⟩ (env n J L) w KK Q:=by
  subst hl
  subst hr
  have hle' := Nat.le_of_ble_eq_true hle
  have h0' := Nat.le_of_ble_eq_true h0
  have hpos:0 < r.sz:=by
    rcases Nat.eq_zero_or_pos r.sz with h | h
    · rw [h] at h0'; simp at h0'
    · exact h
  have hll:l.length≤l.length * r.sz:=Nat.le_mul_of_pos_right _ hpos
  have inn:=Q0u hS.lt (.cells cells e) (w:=w)
  have hnew:(w.alloc (.cells cells e)).heap[w.heap.size]? = some (.cells cells e (0,0)):=heap_alloc_new w _
  have hfl:css.flatten.length=l.length * r.sz:=by
    have hsz:=OwS.sizes ha.len ha.get
    rw [List.length_flatten,← ha.len]
    clear hcs ha
    induction css with
    | nil=>simp
    | cons c css ih=>simp [hsz c (by simp),ih (fun cs h=>hsz cs (by simp [h])),Nat.succ_mul,Nat.add_comm]
  refine Q8l (w' := w.alloc (.cells cells e)) (v := .slice (some ⟨w.heap.size,0,none⟩) l.length l.length) ?_ (k _ _ _ _ inn.imm (hS.cons inn (fun _ h=>h) (F:=(· = w.heap.size)) ⟨⟨css,ha.len,⟨hfl,.inr ⟨w.heap.size,l.length,cells,rfl,Nat.zero_le _,hnew,Nat.le_refl _,by simp only [maxLen]; omega,?_,?_⟩⟩,fun i cs x hc hx=>r.mono inn.imm (ha.get i cs x hc hx)⟩,fun k => ?_⟩ (fun k hk => ?_)))
  · have hn : ¬ l.length * r.sz=0:=by omega
    have hn2 : ¬ l.length * r.sz > 2 ^ 24:=by omega
    have hp:(Array.map (fun p:Nat×Operand=>(p.1,ev n J L p.2)) parts).toList=parts.toList.map fun p=>(p.1,ev n J L p.2):=by simp
    simp only [execOp,Instr.buildSlice,Sem.run_bind,run_underlying ht,Result.andThen_ok,hs,if_neg hn2,if_neg hn,hz,Sem.run_pure,hp,hf,pure_bind]
    rfl
  · rw [← Array.length_toList,hcs,hfl]
  · rw [hcs,← hfl,List.take_length]
  · simp [Value.ownBlock,eq_comm]
  · subst hk; exact⟨Nat.le_refl _,Q6d hS.lt⟩

theorem Q7j {zs:List Value} {sz:Nat} (hz:zs.length=sz) (hp:0 < sz) : ∀(m j:Nat),(List.replicate m zs).flatten[j]? = if j < m * sz then zs[j % sz]? else none
  | 0,j=>by simp
  | m+1,j=>by
    rw [List.replicate_succ,List.flatten_cons]
    by_cases h:j < sz
    · rw [List.getElem?_append_left (by omega),Nat.mod_eq_of_lt h,if_pos (by rw [Nat.succ_mul]; omega)]
    · rw [List.getElem?_append_right (by omega),hz,Q7j hz hp m (j - sz)]
      have e1:(j - sz < m * sz) ↔ (j < (m+1) * sz):=by rw [Nat.succ_mul]; omega
      have e2:(j - sz) % sz=j % sz:=by
        conv=>rhs; rw [show j=(j - sz)+sz by omega]
        simp
      simp only [e1,e2]
theorem msS {α : Type} {r:Rp α} {z0 : α} {l:List α} {e:TypeId} {z:Value} {m:Int} {k1 k2:IntKind} (hS:Sep g T w G) (hx:ev n J L x = .int k1 m) (hy:ev n J L y = .int k2 m) (ht:P.underlying t=some (.slice e)) (he:A7 P e r.sz)
    (hz : ∀ w,(zeroValue e).run P w = .ok z w) (hr:r.rp T w z.cells.toList z0) (hl:Q3w m z0=some l)
    (k : ∀ w' a m c,Im T w T w' → Sep g T w' (Z0 r e (.slice a m c) l::G)→KK (env n J ((d,.slice a m c)::L)) w') :
    Oper.wp P ⟨some d,.makeSlice t x y,ty,pos,aft,none⟩ (env n J L) w KK Q:=by
  unfold Q3w at hl
  split at hl
  next hm =>
    cases hl
    obtain⟨i,z',hi,hz',hsz,hzs,hpos,hby⟩:=he.ex
    have hzz:z' = z:=by
      have:=hz w
      simp [zeroValue,typeInfo,hi,hz'] at this
      exact this
    subst hzz
    obtain⟨h0,h1⟩:=hm
    have hbytes:(i.bytes:Int) * m≤281474976710656:=by
      have hb:(i.bytes:Int)≤16384:=by omega
      calc (i.bytes:Int) * m≤16384 * m:=Int.mul_le_mul_of_nonneg_right hb h0
        _≤281474976710656:=by omega
    have hrun:=run_make (P:=P) w t e i z' ht hi hz' k1 k2 m m h0 (Int.le_refl _) hbytes (by omega)
    rw [hsz] at hrun
    have hml:(madeCells z'.cells (m.toNat * r.sz)).size=m.toNat * r.sz:=size_madeCells _ _
    have hrl:z'.cells.toList.length=r.sz:=r.len hr
    have hfl:(madeCells z'.cells (m.toNat * r.sz)).toList=(List.replicate m.toNat z'.cells.toList).flatten:=by
      apply List.ext_getElem?
      intro j
      rw [Q7j hrl hpos]
      by_cases hj:j < m.toNat * r.sz
      · have hjm:j % r.sz < r.sz:=Nat.mod_lt _ hpos
        rw [if_pos hj,Array.getElem?_toList,Array.getElem?_eq_getElem (by omega),Array.getElem?_toList,Array.getElem?_eq_getElem (by omega)]
        congr 1
        simp [madeCells,hzs,hjm]
      · rw [if_neg hj,List.getElem?_eq_none (by rw [Array.length_toList]; omega)]
    generalize madeCells z'.cells (m.toNat * r.sz)=cells at hrun hml hfl
    have inn:=Q0u hS.lt (.cells cells e) (w:=w)
    have hnew:(w.alloc (.cells cells e)).heap[w.heap.size]? = some (.cells cells e (0,0)):=heap_alloc_new w _
    have hlen:(List.replicate m.toNat z0).length=m.toNat:=by simp
    have hmx:m.toNat≤maxLen:=by simp only [maxLen]; omega
    refine Q8l (w' := w.alloc (.cells cells e)) (v := .slice (some ⟨w.heap.size,0,none⟩) m.toNat m.toNat) ?_ (k _ _ _ _ inn.imm (hS.cons inn (fun _ h=>h) (F:=(· = w.heap.size)) ⟨⟨List.replicate m.toNat z'.cells.toList,by simp,⟨?_,.inr ⟨w.heap.size,m.toNat,cells,by rw [hlen],Nat.zero_le _,hnew,by rw [hlen]; exact Nat.le_refl _,hmx,hml,?_⟩⟩,fun i cs x hc hx => ?_⟩,fun k => ?_⟩ (fun k hk => ?_)))
    · simp only [execOp,hx,hy,Sem.run_bind,hrun,Result.andThen_ok,Sem.run_pure]
    · rw [← hfl,Array.length_toList,hml,hlen]
    · rw [hlen,← hfl,← hml,← Array.length_toList,List.take_length]
    · rw [List.getElem?_replicate] at hc hx
      split at hc
      · rename_i hlt
        rw [if_pos hlt] at hx
        cases hc
        cases hx
        exact r.mono inn.imm hr
      · cases hc
    · simp [Value.ownBlock,eq_comm]
    · subst hk; exact⟨Nat.le_refl _,Q6d hS.lt⟩
  next=>cases hl

theorem calS {f:FuncId} {fo:Operand} {ca:Array Value} {args:List Value} {xs:Array Operand} {tys:Array TypeId} {R:(Nat→Prop)→World→Value→Prop} (hok:Q7 P f) (hf:ev n J L fo = .func (.func f) #[] ca) (hc:Calls P f args.toArray w (Y4 T w R)) (ha:xs.toList.map (ev n J L)++ca.toList=args)
    (k : ∀ v T' w',Im T w T' w' → R T' w' v→KK (env n J ((d,v)::L)) w') :
    Oper.wp P ⟨some d,.call ⟨.value fo,xs,tys⟩,ty,pos,aft,none⟩ (env n J L) w KK Q:=by
  obtain⟨fn,h1,h2,h3⟩:=hok.ex
  refine w_call (f:=f) (args:=args.toArray) (w' := w) (R:=fun v w' => ∃ T',Im T w T' w' ∧ R T' w' v) ?_ hc (fun v w1 ⟨T',i,r⟩=>k v T' w1 i r)
  subst ha
  have hm:(xs.map (ev n J L))++ca=(xs.toList.map (ev n J L)++ca.toList).toArray:=by apply Array.ext'; simp
  have hr:=Q0z (w:=w) h1 h2 h3 (xs.map (ev n J L)++ca)
  simp only [execOp,resolve,hf,Deferred.ofValue,invoke,Array.empty_append,pure_bind]
  rw [hr,hm]
theorem calN {f:FuncId} {fo:Operand} {ca:Array Value} {args:List Value} {xs:Array Operand} {tys:Array TypeId} {R:(Nat→Prop)→World→Value→Prop} (hok:Q7 P f) (hf:ev n J L fo = .func (.func f) #[] ca) (hc:Calls P f args.toArray w (Y4 T w R)) (ha:xs.toList.map (ev n J L)++ca.toList=args)
    (k : ∀ v T' w',Im T w T' w' → R T' w' v→KK (env n J L) w') :
    Oper.wp P ⟨none,.call ⟨.value fo,xs,tys⟩,ty,pos,aft,none⟩ (env n J L) w KK Q:=by
  obtain⟨fn,h1,h2,h3⟩:=hok.ex
  subst ha
  have hm:(xs.map (ev n J L))++ca=(xs.toList.map (ev n J L)++ca.toList).toArray:=by apply Array.ext'; simp
  have hr:=Q0z (w:=w) h1 h2 h3 (xs.map (ev n J L)++ca)
  have he:(execOp (ev n J L) ⟨none,.call ⟨.value fo,xs,tys⟩,ty,pos,aft,none⟩).run P w = .ok (.enter f (xs.toList.map (ev n J L)++ca.toList).toArray) w:=by
    simp only [execOp,resolve,hf,Deferred.ofValue,invoke,Array.empty_append,pure_bind]
    rw [hr,hm]
  unfold Oper.wp
  rw [K7,he,Oper.upon_enter]
  refine hc.mono ?_
  rintro e w1 ⟨v,rfl,T',i,r⟩
  show KK (Act.put _ none v) w1
  rw [Q6x]
  exact k v T' w1 i r
end
end Go.Proofs.YtecakklofhfphaaGreatDoor
