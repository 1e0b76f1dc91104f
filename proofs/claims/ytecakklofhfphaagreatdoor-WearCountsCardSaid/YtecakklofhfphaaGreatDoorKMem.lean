/- What a call changes in memory, what stays, and what a value in memory reads as. It holds for every program. -/
import Derived.Test.YtecakklofhfphaaGreatDoorKCore
set_option linter.unusedVariables false
namespace Go.Proofs.YtecakklofhfphaaGreatDoor

structure Ch (S:Nat→Prop) (w w' : World):Prop where
  os:w'.os=w.os
  tape:w'.tape=w.tape
  output:w'.output=w.output
  size:w.heap.size≤w'.heap.size
  same : ∀ k,k < w.heap.size → ¬ S k→w'.heap[k]? = w.heap[k]?

theorem hlt {w:World} {b:Nat} {o:Obj} (h:w.heap[b]? = some o):b < w.heap.size:=(Array.getElem?_eq_some_iff.1 h).1

def noB:Nat→Prop:=fun _=>False

theorem Ch.refl (S:Nat→Prop) (w:World):Ch S w w:=⟨rfl,rfl,rfl,Nat.le_refl _,fun _ _ _=>rfl⟩
theorem Ch.trans {S:Nat→Prop} {a b c:World} (h:Ch S a b) (k:Ch S b c):Ch S a c :=
  ⟨k.os.trans h.os,k.tape.trans h.tape,k.output.trans h.output,Nat.le_trans h.size k.size,fun i hi hn=>(k.same i (Nat.lt_of_lt_of_le hi h.size) hn).trans (h.same i hi hn)⟩
theorem Ch.keep {S:Nat→Prop} {w w' : World} (h:Ch S w w') {b:Nat} {o:Obj} (hb:w.heap[b]? = some o) (hn : ¬ S b):w'.heap[b]? = some o:=(h.same b (hlt hb) hn).trans hb
theorem Ch.mono {S S' : Nat→Prop} {w w' : World} (h:Ch S w w') (hs : ∀ k,k < w.heap.size→S k→S' k):Ch S' w w' := ⟨h.os,h.tape,h.output,h.size,fun k hk hn=>h.same k hk (fun hh=>hn (hs k hk hh))⟩
theorem Ch.alloc (S:Nat→Prop) (w:World) (o:Obj):Ch S w (w.alloc o):=⟨rfl,rfl,rfl,by simp,fun k hk _=>Go.heap_alloc_old w o hk⟩
theorem Ch.drew (S:Nat→Prop) (w:World):Ch S w w.drew:=⟨rfl,rfl,rfl,Nat.le_refl _,fun _ _ _=>rfl⟩
theorem Ch.setRow {S:Nat→Prop} (w:World) (g:Nat) (cs:Array Value) (h:S g):Ch S w (w.setRow g cs) :=
  ⟨rfl,rfl,rfl,by simp,fun k _ hn=>setRow_other w g k cs (fun e=>hn (e ▸ h))⟩
theorem Ch.below {w w' : World} (h:Ch (fun k=>w.heap.size≤k) w w'):Go.RowKit.Below w.heap.size w w' := ⟨h.os,h.tape,h.output,h.size,fun k hk=>h.same k hk (by omega)⟩

structure Inn (B:Nat) (M T:Nat→Prop) (w:World) (T' : Nat→Prop) (w' : World):Prop where
  ch:Ch (fun k=>B≤k ∨ M k) w w'
  imm : ∀ k,T k→T' k∧w'.heap[k]? = w.heap[k]?
  bd : ∀ k,k < B→T' k→T k
  lt : ∀ k,T' k→k < w'.heap.size
  le:B≤w'.heap.size

def Bd (T:Nat→Prop) (w:World):Prop := ∀ k,T k→k < w.heap.size

theorem Inn.refl {B:Nat} {M T:Nat→Prop} {w:World} (h:Bd T w) (hB:B≤w.heap.size):Inn B M T w T w:=⟨Ch.refl _ _,fun _ h=>⟨h,rfl⟩,fun _ _ h=>h,h,hB⟩
theorem Inn.trans {B:Nat} {M T T1 T2:Nat→Prop} {w w1 w2:World} (h:Inn B M T w T1 w1) (k:Inn B M T1 w1 T2 w2):Inn B M T w T2 w2 :=
  ⟨h.ch.trans k.ch,fun b hb=>⟨(k.imm b (h.imm b hb).1).1,(k.imm b (h.imm b hb).1).2.trans (h.imm b hb).2⟩,fun b hb ht=>h.bd b hb (k.bd b hb ht),k.lt,k.le⟩
theorem Inn.ch1 {B:Nat} {M T T1 S:Nat→Prop} {w w1 w2:World} (h:Inn B M T w T1 w1) (c:Ch S w1 w2) (hS : ∀ k,S k → ¬ T1 k∧(B≤k ∨ M k)):Inn B M T w T1 w2 :=
  h.trans ⟨c.mono fun _ _ hk=>(hS _ hk).2,fun k hk=>⟨hk,c.same k (h.lt k hk) (fun hs=>(hS k hs).1 hk)⟩,fun _ _ hk=>hk,fun k hk=>Nat.lt_of_lt_of_le (h.lt k hk) c.size,Nat.le_trans h.le c.size⟩
theorem Inn.ch0 {B:Nat} {M T T1:Nat→Prop} {w w1 w2:World} (h:Inn B M T w T1 w1) (c:Ch noB w1 w2):Inn B M T w T1 w2:=h.ch1 c fun _ hk=>hk.elim
theorem Inn.call {B:Nat} {M M' T T1 T2:Nat→Prop} {w w1 w2:World} (h:Inn B M T w T1 w1) (c:Inn w1.heap.size M' T1 w1 T2 w2) (hM : ∀ k,M' k→B≤k ∨ M k):Inn B M T w T2 w2:=by
  have hB:=h.le
  refine h.trans ⟨c.ch.mono ?_,c.imm,fun k hk ht=>c.bd k (by omega) ht,c.lt,by have:=c.ch.size; omega⟩
  intro k hk hs
  rcases hs with hs | hs
  · omega
  · exact hM k hs
theorem Inn.Bd {B:Nat} {M T T1:Nat→Prop} {w w1:World} (h:Inn B M T w T1 w1):Bd T1 w1:=h.lt
def Ret (M T:Nat→Prop) (w:World) (R:(Nat→Prop)→World→Value→Prop) (e:Ending) (w' : World):Prop :=
  ∃ v,e = .returned v ∧ ∃ T',Inn w.heap.size M T w T' w' ∧ R T' w' v

structure Rp (α : Type) where
  sz:Nat
  agg:Bool
  rp:(Nat→Prop)→World→List Value → α → Prop
  len : ∀ {T w cs x},rp T w cs x→cs.length=sz
  one : ∀ {T w cs x},rp T w cs x → ∀ c ∈ cs,c.oneCell' = true
  mono : ∀ {T T' w w' cs x},(∀ k,T k→T' k∧w'.heap[k]? = w.heap[k]?)→rp T w cs x→rp T' w' cs x

def toV (agg:Bool) (cs:List Value):Value:=match agg with
  | true => .agg cs.toArray
  | false=>cs.headD undef

def Rp.vl {α : Type} (r:Rp α) (T:Nat→Prop) (w:World) (v:Value) (x : α):Prop := ∃ cs,v=toV r.agg cs∧r.rp T w cs x

theorem Rp.up {α : Type} {r:Rp α} {B:Nat} {M T T' : Nat→Prop} {w w' : World} {cs:List Value} {x : α} (h:r.rp T w cs x) (i:Inn B M T w T' w'):r.rp T' w' cs x:=r.mono i.imm h
def Q2 (k:IntKind):Rp Int where
  sz:=1
  agg:=false
  rp:=fun _ _ cs x=>cs = [.int k x]
  len:=fun h=>by rw [h]; rfl
  one:=fun h c hc=>by rw [h] at hc; simp at hc; subst hc; rfl
  mono:=fun _ h=>h
def rBool:Rp Bool where
  sz:=1
  agg:=false
  rp:=fun _ _ cs x=>cs = [.bool x]
  len:=fun h=>by rw [h]; rfl
  one:=fun h c hc=>by rw [h] at hc; simp at hc; subst hc; rfl
  mono:=fun _ h=>h
def rStr:Rp (List UInt8) where
  sz:=1
  agg:=false
  rp:=fun _ _ cs x=>cs = [.string ⟨x.toArray⟩]
  len:=fun h=>by rw [h]; rfl
  one:=fun h c hc=>by rw [h] at hc; simp at hc; subst hc; rfl
  mono:=fun _ h=>h
def F8 {α β : Type} (r:Rp α) (s:Rp β):Rp (α × β) where
  sz:=r.sz+s.sz
  agg:=true
  rp:=fun T w cs x => ∃ c d,cs=c++d∧r.rp T w c x.1∧s.rp T w d x.2
  len:=fun⟨c,d,e,h1,h2⟩=>by rw [e,List.length_append,r.len h1,s.len h2]
  one:=fun⟨c,d,e,h1,h2⟩ u hu=>by
    rw [e] at hu
    rcases List.mem_append.1 hu with hu | hu
    · exact r.one h1 u hu
    · exact s.one h2 u hu
  mono:=fun hi ⟨c,d,e,h1,h2⟩=>⟨c,d,e,r.mono hi h1,s.mono hi h2⟩
def Rp.iso {α β : Type} (r:Rp α) (f : β → α):Rp β where
  sz:=r.sz
  agg:=true
  rp:=fun T w cs y=>r.rp T w cs (f y)
  len:=fun h=>r.len h
  one:=fun h=>r.one h
  mono:=fun hi h=>r.mono hi h

def cellsAt (w:World) (b off:Nat) (cs:List Value):Prop := ∀ j v,cs[j]? = some v→w.cell? ⟨b,off+j,none⟩=some v

theorem Y2z {w w' : World} {b o:Nat} (h:w'.heap[b]? = w.heap[b]?):w'.cell? ⟨b,o,none⟩=w.cell? ⟨b,o,none⟩:=World.cell?_of_block h
theorem cellsAt.same {w w' : World} {b off:Nat} {cs:List Value} (h:cellsAt w b off cs) (e:w'.heap[b]? = w.heap[b]?):cellsAt w' b off cs:=fun j v hj=>(Y2z e).trans (h j v hj)

def SlR {α : Type} (r:Rp α) (T:Nat→Prop) (w:World) (v:Value) (l:List α):Prop :=
  ∃ a cap,v = .slice a l.length cap∧l.length≤cap∧cap≤maxLen ∧
    (l = [] ∨ ∃ b off,a=some ⟨b,off,none⟩∧T b ∧ ∀ i x,l[i]? = some x → ∃ cs,r.rp T w cs x∧cellsAt w b (off+i * r.sz) cs)

theorem SlR.mono {α : Type} {r:Rp α} {T T' : Nat→Prop} {w w' : World} {v:Value} {l:List α} (hi : ∀ k,T k→T' k∧w'.heap[k]? = w.heap[k]?) (h:SlR r T w v l):SlR r T' w' v l:=by
  obtain⟨a,cap,e,h1,h2,h3⟩:=h
  refine⟨a,cap,e,h1,h2,?_⟩
  rcases h3 with h3 | ⟨b,off,ha,hT,hx⟩
  · exact .inl h3
  · refine .inr ⟨b,off,ha,(hi b hT).1,fun i x hix => ?_⟩
    obtain⟨cs,hr,hc⟩:=hx i x hix
    exact⟨cs,r.mono hi hr,hc.same (hi b hT).2⟩

def rSl {α : Type} (r:Rp α):Rp (List α) where
  sz:=1
  agg:=false
  rp:=fun T w cs l => ∃ v,cs = [v]∧SlR r T w v l
  len:=fun⟨v,e,_⟩=>by rw [e]; rfl
  one:=fun⟨v,e,h⟩ c hc=>by
    obtain⟨a,cap,hv,_⟩:=h
    rw [e,hv] at hc
    simp at hc
    subst hc
    rfl
  mono:=fun hi ⟨v,e,h⟩=>⟨v,e,h.mono hi⟩

def Box (w:World) (b:Nat) (cs:List Value):Prop := ∃ e,w.heap[b]? = some (.cells cs.toArray e (0,0))
theorem Box.lt {w:World} {b:Nat} {cs:List Value} (h:Box w b cs):b < w.heap.size:=let ⟨_,h⟩:=h; hlt h
theorem Box.keep {S:Nat→Prop} {w w' : World} {b:Nat} {cs:List Value} (h:Box w b cs) (c:Ch S w w') (hn : ¬ S b):Box w' b cs:=let ⟨e,h⟩:=h; ⟨e,c.keep h hn⟩
theorem Box.cell {w:World} {b:Nat} {cs:List Value} (h:Box w b cs) (j:Nat):w.cell? ⟨b,j,none⟩=cs[j]? := by
  obtain⟨e,h⟩:=h
  rw [cell_of_row w b j _ e (0,0) h]
  simp

def OwS {α : Type} (r:Rp α) (e:TypeId) (B:Nat) (T:Nat→Prop) (w:World) (v:Value) (l:List α):Prop :=
  ∃ css:List (List Value),css.length=l.length∧w.ownsRow B e r.sz v l.length css.flatten∧(∀(i:Nat) (cs:List Value) (x : α),css[i]? = some cs→l[i]? = some x→r.rp T w cs x)∧(∀ g,v.ownBlock=some g → ¬ T g)

end Go.Proofs.YtecakklofhfphaaGreatDoor
