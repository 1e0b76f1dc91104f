/- Lemmas that hold for every program. -/
import Derived.WalkKit
import Derived.Deep.Quiet
import Derived.Deep.LoopGhost
import Derived.Deep.RegionHeld3
import Derived.OrdersIn
import Derived.Laws.MakeOwn
import Derived.Laws.Pointers
import Derived.Laws.BytesArg
import Derived.Lib.ConvBytes
import Derived.Lib.LazyBuf
import Derived.WalkSpells
import Derived.Laws.Cover3
set_option linter.unusedVariables false
namespace Go.Proofs.YtjohcgibbiebkaaGreatDoor
open List renaming length_append → qW, mem_cons → qZ, mem_append → jQ, append_assoc → qS, range → qT, replicate → kZ, getElem?_eq_getElem → kM, getD_eq_getElem?_getD → kP, getElem?_append_left → kR, getElem?_append_right → kS, getElem?_eq_none → kU, append_nil → jK, cons_append → jX, mem_of_getElem? → jW, getElem_mem → jT, map_append → jC
open Bool renaming or_eq_true → qH, and_eq_true → qM
open Nat renaming le_refl → qD, zero_le → kX, le_of_ble_eq_true → kN, le_trans → jH, lt_of_lt_of_le → jM
open Option renaming some → kK
open Result renaming andThen_ok → kT
abbrev Aa:=List UInt8
abbrev Ab:=List Value
abbrev Ac:=Exit->Act->World->Prop
abbrev TP:=Nat->Prop
abbrev OA:=Option Addr
abbrev Ag:=Array Edge
abbrev Ah:=List Oper
theorem Aj{α:Type}{a b:α}:(bif false then a else b)=b:=rfl
theorem Ak{α:Type}{a b:α}:(bif true then a else b)=a:=rfl
def lk(J:Nat->Value):List (Nat×Value)->Nat->Value
 |[],t=>J t
 |p::r,t=>match Nat.beq t p.1 with
  |true=>p.2
  |false=>lk J r t

structure NF where
 n:Nat
 ds:List Deferred
abbrev nf(n:Nat):NF:=⟨n,[]⟩

def env(n:NF)(J:Nat->Value)(L:List (Nat×Value)):Act:=⟨((qT n.n).map (lk J L)).toArray,n.ds⟩

def ev(n:NF)(J:Nat->Value)(L:List (Nat×Value)):Operand->Value
 | .tmp t=>match Nat.blt t n.n with
  |true=>lk J L t
  |false=>undef
 | .const v=>v
 | .global g=> .pointer (some ⟨g,0,none⟩)
 | .func f=> .func (.func f) #[] #[]

theorem Q1c(n:NF)(J:Nat->Value)(L:List (Nat×Value)):(env n J L).eval=ev n J L:=by
 funext x
 cases x with
 |tmp t=>
  simp only[Act.eval,ev,env]
  by_cases h:t<n.n
  . have h':Nat.blt t n.n=true:=by simpa[Nat.blt_eq]using h
    rw[h']
    simp[Array.getD,h]
  . have h':Nat.blt t n.n=false:=by
     cases hb:Nat.blt t n.n with
     |false=>rfl
     |true=>exact absurd (by simpa[Nat.blt_eq]using hb) h
    rw[h']
    simp[Array.getD,h]
 |const v=>rfl
 |global g=>rfl
 |func f=>rfl

theorem Q7r(n:NF)(J:Nat->Value)(L:List (Nat×Value))(d:Nat)(v:Value):(env n J L).put (some d) v=env n J ((d,v)::L):=by
 unfold Act.put env
 simp only
 congr 1
 apply Array.ext
 . simp
 . intro i h1 h2;have hi:i<n.n:=by simpa using h2
   by_cases h:d=i
   . subst h
     simp[lk]
   . have hb:Nat.beq i d=false:=by
      cases hb:Nat.beq i d with
      |false=>rfl
      |true=>exact absurd (Nat.eq_of_beq_eq_true hb).symm h
     rw[Array.getElem_setIfInBounds_ne (by simpa using hi) h]
     simp[lk,hb]

theorem Y3z(n:NF)(J:Nat->Value)(L:List (Nat×Value))(v:Value):(env n J L).put none v=env n J L:=rfl

def Has(n:NF)(J:Nat->Value)(L:List (Nat×Value)):List (Nat×Value)->Prop
 |[]=>True
 |p::r=>lk J L p.1=p.2/\Has n J L r

theorem Y7r(n:NF)(J:Nat->Value)(L:List (Nat×Value)):∀(M:List (Nat×Value)),Has n J L M->lk (lk J L) M=lk J L
 |[],_=>rfl
 |p::r,h=>by
  funext t
  simp only[lk]
  have ih:=Y7r n J L r h.2
  cases hb:Nat.beq t p.1 with
  |true=>
   have e:t=p.1:=Nat.eq_of_beq_eq_true hb
   simp only
   rw[e]
   exact h.1.symm
  |false=>simp only;rw[ih]

section
variable{P:Program}{ops:Array Oper}{Q:Ac}{rest:Ah}{n:NF}{J:Nat->Value}{L:List (Nat×Value)}{w w':World}
 {d:Nat} {ty:TypeId} {pos:String} {aft:Ag} {op:Op} {v:Value}

theorem Z6s(h:(execOp (ev n J L) ⟨some d,op,ty,pos,aft,none⟩).run P w= .ok (.value v) w')(k:wpList P ops Q rest (env n J ((d,v)::L)) w'):
 wpList P ops Q (⟨some d,op,ty,pos,aft,none⟩::rest) (env n J L) w:=
 wpList_plain rfl fun K hK=>by
  unfold Oper.wp
  rw[Q1c,h]
  show K (Act.put _ (some d) v) w'
  rw[Q7r]
  exact hK _ _ k

theorem wl{o:Oper}{a:Act}(hg:o.guard=none)(h:o.wp P a w (fun a' w'=>wpList P ops Q rest a' w') Q):wpList P ops Q (o::rest) a w:=
 wpList_plain hg fun K hK=>Oper.wp_mono (fun a w h=>hK a w h) h
section
variable{KK:Act->World->Prop}
theorem Y2h(h:(execOp (ev n J L) ⟨some d,op,ty,pos,aft,none⟩).run P w= .ok (.value v) w')(k:KK (env n J ((d,v)::L)) w'):Oper.wp P ⟨some d,op,ty,pos,aft,none⟩ (env n J L) w KK Q:=by
 unfold Oper.wp;rw[Q1c,h];show KK (Act.put _ (some d) v) w';rw[Q7r];exact k
theorem X0b(h:(execOp (ev n J L) ⟨none,op,ty,pos,aft,none⟩).run P w= .ok .skip w')(k:KK (env n J L) w'):Oper.wp P ⟨none,op,ty,pos,aft,none⟩ (env n J L) w KK Q:=by
 unfold Oper.wp;rw[Q1c,h];show KK (Act.put _ none _) w';rw[Y3z];exact k
theorem w_call{f:FuncId}{args:Array Value}{R:Value->World->Prop}(h:(execOp (ev n J L) ⟨some d,op,ty,pos,aft,none⟩).run P w= .ok (.enter f args) w')
 (hc:Calls P f args w' fun e w1=>∃v,e= .returned v/\R v w1) (k:∀v w1,R v w1->KK (env n J ((d,v)::L)) w1):Oper.wp P ⟨some d,op,ty,pos,aft,none⟩ (env n J L) w KK Q:=by
 unfold Oper.wp;rw[Q1c,h,Oper.upon_enter];refine hc.mono ?_;rintro e w1 ⟨v,rfl,hr⟩;show KK (Act.put _ (some d) v) w1;rw[Q7r];exact k v w1 hr
end

end
structure Ch(S:TP)(w w':World):Prop where
 os:w'.os=w.os
 tape:w'.tape=w.tape
 output:w'.output=w.output
 size:w.heap.size<=w'.heap.size
 same:∀k,k<w.heap.size->¬S k->w'.heap[k]?=w.heap[k]?

theorem hlt{w:World}{b:Nat}{o:Obj}(h:w.heap[b]?=some o):b<w.heap.size:=(Array.getElem?_eq_some_iff.1 h).1

def noB:Nat->Prop:=fun _=>False

theorem Ch.refl(S:TP)(w:World):Ch S w w:=⟨rfl,rfl,rfl,qD _,fun _ _ _=>rfl⟩
theorem Ch.trans{S:TP}{a b c:World}(h:Ch S a b)(k:Ch S b c):Ch S a c:=
 ⟨k.os.trans h.os,k.tape.trans h.tape,k.output.trans h.output,jH h.size k.size,fun i hi hn=>(k.same i (jM hi h.size) hn).trans (h.same i hi hn)⟩
theorem Ch.keep{S:TP}{w w':World}(h:Ch S w w'){b:Nat}{o:Obj}(hb:w.heap[b]?=some o)(hn:¬S b):w'.heap[b]?=some o:=(h.same b (hlt hb) hn).trans hb
theorem Ch.mono{S S':TP}{w w':World}(h:Ch S w w')(hs:∀k,k<w.heap.size->S k->S' k):Ch S' w w':=⟨h.os,h.tape,h.output,h.size,fun k hk hn=>h.same k hk (fun hh=>hn (hs k hk hh))⟩
theorem Ch.alloc(S:TP)(w:World)(o:Obj):Ch S w (w.alloc o):=⟨rfl,rfl,rfl,by simp,fun k hk _=>Go.heap_alloc_old w o hk⟩
theorem Ch.drew(S:TP)(w:World):Ch S w w.drew:=⟨rfl,rfl,rfl,qD _,fun _ _ _=>rfl⟩
theorem Ch.setRow{S:TP}(w:World)(g:Nat)(cs:Array Value)(h:S g):Ch S w (w.setRow g cs):=
 ⟨rfl,rfl,rfl,by simp,fun k _ hn=>setRow_other w g k cs (fun e=>hn (e▸h))⟩
theorem Ch.below{w w':World}(h:Ch (fun k=>w.heap.size<=k) w w'):Go.RowKit.Below w.heap.size w w':=⟨h.os,h.tape,h.output,h.size,fun k hk=>h.same k hk (by omega)⟩

structure Inn(B:Nat)(M T:TP)(w:World)(T':TP)(w':World):Prop where
 ch:Ch (fun k=>B<=k\/M k) w w'
 imm:∀k,T k->T' k/\w'.heap[k]?=w.heap[k]?
 bd:∀k,k<B->T' k->T k
 lt:∀k,T' k->k<w'.heap.size
 le:B<=w'.heap.size

def Bd(T:TP)(w:World):Prop:=∀k,T k->k<w.heap.size

theorem Inn.refl{B:Nat}{M T:TP}{w:World}(h:Bd T w)(hB:B<=w.heap.size):Inn B M T w T w:=⟨Ch.refl _ _,fun _ h=>⟨h,rfl⟩,fun _ _ h=>h,h,hB⟩
theorem Inn.trans{B:Nat}{M T T1 T2:TP}{w w1 w2:World}(h:Inn B M T w T1 w1)(k:Inn B M T1 w1 T2 w2):Inn B M T w T2 w2:=
 ⟨h.ch.trans k.ch,fun b hb=>⟨(k.imm b (h.imm b hb).1).1,(k.imm b (h.imm b hb).1).2.trans (h.imm b hb).2⟩,fun b hb ht=>h.bd b hb (k.bd b hb ht),k.lt,k.le⟩
theorem Inn.ch1{B:Nat}{M T T1 S:TP}{w w1 w2:World}(h:Inn B M T w T1 w1)(c:Ch S w1 w2)(hS:∀k,S k->¬T1 k/\(B<=k\/M k)):Inn B M T w T1 w2:=
 h.trans ⟨c.mono fun _ _ hk=>(hS _ hk).2,fun k hk=>⟨hk,c.same k (h.lt k hk) (fun hs=>(hS k hs).1 hk)⟩,fun _ _ hk=>hk,fun k hk=>jM (h.lt k hk) c.size,jH h.le c.size⟩
theorem Inn.ch0{B:Nat}{M T T1:TP}{w w1 w2:World}(h:Inn B M T w T1 w1)(c:Ch noB w1 w2):Inn B M T w T1 w2:=h.ch1 c fun _ hk=>hk.elim
theorem Inn.call{B:Nat}{M M' T T1 T2:TP}{w w1 w2:World}(h:Inn B M T w T1 w1)(c:Inn w1.heap.size M' T1 w1 T2 w2)(hM:∀k,M' k->B<=k\/M k):Inn B M T w T2 w2:=by
 have hB:=h.le;refine h.trans ⟨c.ch.mono ?_,c.imm,fun k hk ht=>c.bd k (by omega) ht,c.lt,by have:=c.ch.size;omega⟩;intro k hk hs
 rcases hs with hs|hs
 . omega
 . exact hM k hs
theorem Inn.Bd{B:Nat}{M T T1:TP}{w w1:World}(h:Inn B M T w T1 w1):Bd T1 w1:=h.lt
def Ret(M T:TP)(w:World)(R:(TP)->World->Value->Prop)(e:Ending)(w':World):Prop:=
 ∃v,e= .returned v/\∃T',Inn w.heap.size M T w T' w'/\R T' w' v

structure Rp(α:Type) where
 sz:Nat
 agg:Bool
 rp:(TP)->World->Ab->α->Prop
 len:∀{T w cs x},rp T w cs x->cs.length=sz
 one:∀{T w cs x},rp T w cs x->∀c∈cs,c.oneCell'=true
 mono:∀{T T' w w' cs x},(∀k,T k->T' k/\w'.heap[k]?=w.heap[k]?)->rp T w cs x->rp T' w' cs x

theorem Rp.up{α:Type}{r:Rp α}{B:Nat}{M T T':TP}{w w':World}{cs:Ab}{x:α}(h:r.rp T w cs x)(i:Inn B M T w T' w'):r.rp T' w' cs x:=r.mono i.imm h
def N1(k:IntKind):Rp Int where
 sz:=1
 agg:=false
 rp:=fun _ _ cs x=>cs=[.int k x]
 len:=fun h=>by rw[h];rfl
 one:=fun h c hc=>by rw[h]at hc;simp at hc;subst hc;rfl
 mono:=fun _ h=>h
def Z3x:Rp Bool where
 sz:=1
 agg:=false
 rp:=fun _ _ cs x=>cs=[.bool x]
 len:=fun h=>by rw[h];rfl
 one:=fun h c hc=>by rw[h]at hc;simp at hc;subst hc;rfl
 mono:=fun _ h=>h
def L9:Rp (Aa) where
 sz:=1
 agg:=false
 rp:=fun _ _ cs x=>cs=[.string ⟨x.toArray⟩]
 len:=fun h=>by rw[h];rfl
 one:=fun h c hc=>by rw[h]at hc;simp at hc;subst hc;rfl
 mono:=fun _ h=>h
def E7{α β:Type}(r:Rp α)(s:Rp β):Rp (α×β) where
 sz:=r.sz+s.sz
 agg:=true
 rp:=fun T w cs x=>∃c d,cs=c++d/\r.rp T w c x.1/\s.rp T w d x.2
 len:=fun⟨c,d,e,h1,h2⟩=>by rw[e,qW,r.len h1,s.len h2]
 one:=fun⟨c,d,e,h1,h2⟩ u hu=>by
  rw[e]at hu
  rcases jQ.1 hu with hu|hu
  . exact r.one h1 u hu
  . exact s.one h2 u hu
 mono:=fun hi ⟨c,d,e,h1,h2⟩=>⟨c,d,e,r.mono hi h1,s.mono hi h2⟩
def Rp.iso{α β:Type}(r:Rp α)(f:β->α):Rp β where
 sz:=r.sz
 agg:=true
 rp:=fun T w cs y=>r.rp T w cs (f y)
 len:=fun h=>r.len h
 one:=fun h=>r.one h
 mono:=fun hi h=>r.mono hi h

def cellsAt(w:World)(b off:Nat)(cs:Ab):Prop:=∀j v,cs[j]?=some v->w.cell? ⟨b,off+j,none⟩=some v

theorem X7h{w w':World}{b o:Nat}(h:w'.heap[b]?=w.heap[b]?):w'.cell? ⟨b,o,none⟩=w.cell? ⟨b,o,none⟩:=World.cell?_of_block h
theorem cellsAt.same{w w':World}{b off:Nat}{cs:Ab}(h:cellsAt w b off cs)(e:w'.heap[b]?=w.heap[b]?):cellsAt w' b off cs:=fun j v hj=>(X7h e).trans (h j v hj)

def SlR{α:Type}(r:Rp α)(T:TP)(w:World)(v:Value)(l:List α):Prop:=
 ∃a cap,v= .slice a l.length cap/\l.length<=cap/\cap<=maxLen/\
  (l=[]\/∃b off,a=some ⟨b,off,none⟩/\T b/\∀i x,l[i]?=some x->∃cs,r.rp T w cs x/\cellsAt w b (off+i*r.sz) cs)

theorem SlR.mono{α:Type}{r:Rp α}{T T':TP}{w w':World}{v:Value}{l:List α}(hi:∀k,T k->T' k/\w'.heap[k]?=w.heap[k]?)(h:SlR r T w v l):SlR r T' w' v l:=by
 obtain⟨a,cap,e,h1,h2,h3⟩:=h;refine⟨a,cap,e,h1,h2,?_⟩
 rcases h3 with h3|⟨b,off,ha,hT,hx⟩
 . exact .inl h3
 . refine .inr ⟨b,off,ha,(hi b hT).1,fun i x hix=>?_⟩;obtain⟨cs,hr,hc⟩:=hx i x hix;exact⟨cs,r.mono hi hr,hc.same (hi b hT).2⟩

def rSl{α:Type}(r:Rp α):Rp (List α) where
 sz:=1
 agg:=false
 rp:=fun T w cs l=>∃v,cs=[v]/\SlR r T w v l
 len:=fun⟨v,e,_⟩=>by rw[e];rfl
 one:=fun⟨v,e,h⟩ c hc=>by
  obtain⟨a,cap,hv,_⟩:=h
  rw[e,hv]at hc
  simp at hc
  subst hc
  rfl
 mono:=fun hi ⟨v,e,h⟩=>⟨v,e,h.mono hi⟩

def Box(w:World)(b:Nat)(cs:Ab):Prop:=∃e,w.heap[b]?=some (.cells cs.toArray e (0,0))
theorem Box.lt{w:World}{b:Nat}{cs:Ab}(h:Box w b cs):b<w.heap.size:=let⟨_,h⟩:=h;hlt h
theorem Box.keep{S:TP}{w w':World}{b:Nat}{cs:Ab}(h:Box w b cs)(c:Ch S w w')(hn:¬S b):Box w' b cs:=let⟨e,h⟩:=h;⟨e,c.keep h hn⟩
theorem Box.cell{w:World}{b:Nat}{cs:Ab}(h:Box w b cs)(j:Nat):w.cell? ⟨b,j,none⟩=cs[j]?:=by
 obtain⟨e,h⟩:=h;rw[cell_of_row w b j _ e (0,0) h]
 simp

def OwS{α:Type}(r:Rp α)(e:TypeId)(B:Nat)(T:TP)(w:World)(v:Value)(l:List α):Prop:=
 ∃css:List (Ab),css.length=l.length/\w.ownsRow B e r.sz v l.length css.flatten/\(∀(i:Nat)(cs:Ab)(x:α),css[i]?=some cs->l[i]?=some x->r.rp T w cs x)/\(∀g,v.ownBlock=some g->¬T g)
inductive Lp(S R:Type) where
 |go (s:S)
 |brk (s:S)
 |ret (r:R)

def loopM{S R:Type}(body:S->Option (Lp S R)):Nat->S->Option (Lp S R)
 |0,_=>none
 |n+1,s=>match body s with
  |some (.go s')=>loopM body n s'
  |some (.brk s')=>some (.brk s')
  |some (.ret r)=>some (.ret r)
  |none=>none

def Lp.thn{S R A:Type}(x:Lp S R)(f:S->Option A)(g:R->Option A):Option A:=match x with
 | .brk s=>f s
 | .ret r=>g r
 | .go _=>none

def NN:Nat:=2^64

def jn{κ O:Type}(f:κ->Option O)(k:κ):Option O:=f k

theorem bindS{α β:Type}{m:Option α}{f:α->Option β}{r:β}(h:m.bind f=some r):∃x,m=some x/\f x=some r:=by
 cases m with
 |none=>cases h
 |some x=>exact⟨x,rfl,h⟩
theorem oI{α:Type}{a b:α}(h:some a=some b):a=b:=Option.some.inj h
theorem X4o{S R:Type}{body:S->Option (Lp S R)}{n:Nat}{s:S}{o:Lp S R}(h:loopM body n s=some o):
 ∃m,n=m+1/\((∃s',body s=some (.go s')/\loopM body m s'=some o)\/(∃s',body s=some (.brk s')/\o= .brk s')\/(∃r,body s=some (.ret r)/\o= .ret r)):=by
 cases n with
 |zero=>cases h
 |succ m=>
  refine⟨m,rfl,?_⟩;unfold loopM at h
  split at h
  . rename_i s' hs;exact .inl ⟨s',hs,h⟩
  . rename_i s' hs;cases h;exact .inr (.inl ⟨s',hs,rfl⟩)
  . rename_i r hs;cases h;exact .inr (.inr ⟨r,hs,rfl⟩)
  . cases h
def idx{α:Type}(l:List α)(i:Int):Option α:=if 0<=i then l[i.toNat]?else none

theorem Q2d{α:Type}{l:List α}{i:Int}{x:α}(h:idx l i=some x):0<=i/\i<l.length/\l[i.toNat]?=some x:=by
 unfold idx at h
 split at h
 . rename_i h0
   have hl:i.toNat<l.length:=by
    rcases Nat.lt_or_ge i.toNat l.length with h'|h'
    . exact h'
    . rw[kU h']at h;cases h
   exact⟨h0,by omega,h⟩
 . cases h

def Q1d(n:Nat):Option Unit:=if n<=8589934592 then some ()else none
theorem K9{n:Nat}{u:Unit}(h:Q1d n=some u):n<=8589934592:=by
 unfold Q1d at h
 split at h
 . assumption
 . cases h

def nz(x:Int):Option Unit:=if x=0 then none else some ()
def nn(x:Int):Option Unit:=if 0<=x then some ()else none
theorem X0t{x:Int}{u:Unit}(h:nn x=some u):0<=x:=by
 unfold nn at h
 split at h
 . assumption
 . cases h

section plain
variable{K V:Type}[DecidableEq K]
def Q9n:List (K×V)->K->Option V
 |[],_=>none
 |p::m,k=>if k=p.1 then some p.2 else Q9n m k
def Q8w:List (K×V)->K->V->List (K×V)
 |[],k,v=>[(k,v)]
 |p::m,k,v=>if k=p.1 then(k,v)::m else p::Q8w m k v
def mDel:List (K×V)->K->List (K×V)
 |[],_=>[]
 |p::m,k=>if k=p.1 then m else p::mDel m k

theorem mGet_set(m:List (K×V))(k k':K)(v:V):Q9n (Q8w m k v) k'=if k'=k then some v else Q9n m k':=by
 induction m with
 |nil=>simp[Q8w,Q9n]
 |cons p m ih=>
  simp only[Q8w]
  by_cases h:k=p.1
  . rw[if_pos h]
    simp only[Q9n]
    by_cases h2:k'=k
    . simp[h2]
    . have h3:¬k'=p.1:=by rw[<-h];exact h2
      simp[h2,h3]
  . rw[if_neg h]
    simp only[Q9n,ih]
    by_cases h2:k'=p.1
    . rw[if_pos h2,if_neg (by rw[h2];exact fun e=>h e.symm),if_pos h2]
    . rw[if_neg h2,if_neg h2]

end plain

def sub{α:Type}(l:List α)(a b:Int):Option (List α):=if 0<=a/\a<=b/\b<=l.length then some ((l.take b.toNat).drop a.toNat)else none

theorem Z1s{α:Type}{l r:List α}{a b:Int}(h:sub l a b=some r):0<=a/\a<=b/\b<=l.length/\r=(l.take b.toNat).drop a.toNat:=by
 unfold sub at h
 split at h
 . rename_i h0
   exact⟨h0.1,h0.2.1,h0.2.2,(Option.some.inj h).symm⟩
 . cases h

def repl{α:Type}(n:Int)(z:α):Option (List α):=if 0<=n/\n<=8589934592 then some (kZ n.toNat z)else none

def P7{K V:Type}[DecidableEq K](m:Option (List (K×V)))(k:K):Option V:=m.bind fun l=>Q9n l k
def Z4y{K V:Type}(m:Option (List (K×V))):Nat:=(m.getD []).length

def Y1i(l:List Int):Aa:=l.map fun n=>UInt8.ofNat n.toNat
def N0(l:Aa):List Int:=l.map fun c=>(c.toNat:Int)

def exC{E O A:Type}(y:Except E O)(f:O->A)(g:E->A):A:=match y with
 | .ok x=>f x
 | .error e=>g e
theorem C1{E O A:Type}{x:O}{f:O->A}{g:E->A}{z:A}(h:exC (.ok x) f g=z):f x=z:=h
theorem G0{E O A:Type}{e:E}{f:O->A}{g:E->A}{z:A}(h:exC (.error e) f g=z):g e=z:=h

inductive O3(α:Type) where
 |nil
 |dead
 |some (x:α)
def O3.get{α:Type}:O3 α->Option α
 | .some x=>kK x
 |_=>none
def O3.isNil{α:Type}:O3 α->Option Bool
 | .some _=>kK false
 | .nil=>kK true
 | .dead=>none
theorem O3.get_some{α:Type}{o:O3 α}{x:α}(h:o.get=kK x):o= .some x:=by
 cases o<;>simp[O3.get]at h
 rw[h]
def ibin:BinOp->IntKind->Int->Int->Option Value
 | .add,k,a,b=>some (.int k (k.wrap (a+b)))
 | .sub,k,a,b=>some (.int k (k.wrap (a-b)))
 | .mul,k,a,b=>some (.int k (k.wrap (a*b)))
 | .and,k,a,b=>some (.int k (bits .and k a b))
 | .or,k,a,b=>some (.int k (bits .or k a b))
 | .xor,k,a,b=>some (.int k (bits .xor k a b))
 | .andNot,k,a,b=>some (.int k (bits .andNot k a b))
 | .eql,_,a,b=>some (.bool (a==b))
 | .neq,_,a,b=>some (.bool (a !=b))
 | .lss,_,a,b=>some (.bool (decide (a<b)))
 | .leq,_,a,b=>some (.bool (decide (a<=b)))
 | .gtr,_,a,b=>some (.bool (decide (b<a)))
 | .geq,_,a,b=>some (.bool (decide (b<=a)))
 |_,_,_,_=>none

def QC(T:TP)(w0:World):World->Prop:=fun w=>∃T',Inn w0.heap.size noB T w0 T' w

theorem QC.cell{T:TP}{w0 w:World}(h:QC T w0 w){a:Addr}{v:Value}(hc:w0.cell? a=some v):w.cell? a=some v:=by
 obtain⟨T',hi⟩:=h;have hl:=World.block_lt_of_cell? w0 a hc;exact(World.cell?_of_block (hi.ch.same a.block hl (fun hh=>hh.elim (fun h=>by omega) id))).trans hc

theorem QC.cellsAt{T:TP}{w0 w:World}(h:QC T w0 w){b off:Nat}{cs:Ab}(hc:cellsAt w0 b off cs):cellsAt w b off cs:=fun j v hj=>h.cell (hc j v hj)

theorem SlR.atI{α:Type}{r:Rp α}{T:TP}{w:World}{v:Value}{l:List α}(h:SlR r T w v l){i:Nat}{x:α}(hi:l[i]?=some x):
 ∃b off cap cs,v= .slice (some ⟨b,off,none⟩) l.length cap/\i<l.length/\r.rp T w cs x/\cellsAt w b (off+i*r.sz) cs:=by
 obtain⟨a,cap,hv,h1,h2,h3⟩:=h
 have hl:i<l.length:=by
  rcases Nat.lt_or_ge i l.length with h|h
  . exact h
  . rw[kU h]at hi;cases hi
 rcases h3 with rfl|⟨b,off,rfl,hT,hx⟩
 . simp at hl
 . obtain⟨cs,hr,hc⟩:=hx i x hi;exact⟨b,off,cap,cs,hv,hl,hr,hc⟩

section
variable{P:Program}{ops:Array Oper}{Q:Ac}{rest:Ah}{n:NF}{J:Nat->Value}{L:List (Nat×Value)}{w w' w0:World}
 {d:Nat} {ty:TypeId} {pos:String} {aft:Ag} {op:Op} {v:Value} {x y c:Operand} {t t2:TypeId} {T:TP} {Qa:Act->Prop} {C:World->Prop}

theorem run_ibin{o:BinOp}{k:IntKind}{a b:Int}(h:ibin o k a b=some v):(binOp o t (.int k a) (.int k b)).run P w= .ok v w:=by
 cases o<;>simp[ibin]at h<;>subst h<;>simp[go_sem,Op.intArith]
theorem Y4o{o:BinOp}{k:IntKind}{a:Int}{u:Value}:eqGuard o t x y (.int k a) u=pure ():=by cases o<;>rfl
theorem X2y{o:BinOp}{a:Bool}{u:Value}:eqGuard o t x y (.bool a) u=pure ():=by cases o<;>rfl
theorem X6a{o:BinOp}{a:ByteArray}{u:Value}:eqGuard o t x y (.string a) u=pure ():=by cases o<;>rfl

theorem q_val(h:∀w,C w->(execOp (ev n J L) ⟨some d,op,ty,pos,aft,none⟩).run P w= .ok (.value v) w)(k:wpQuiet P ops C Qa rest (env n J ((d,v)::L))):
 wpQuiet P ops C Qa (⟨some d,op,ty,pos,aft,none⟩::rest) (env n J L):=
 wpQuiet_step fun K hK=>by
  refine(if_pos (by simp[Region.wanted])).mpr ?_
  refine⟨v,fun w hw=>?_,?_⟩
  . unfold Oper.quietAt
    rw[Q1c,h w hw]
    exact⟨rfl,rfl⟩
  . rw[Q7r]
    exact hK _ k

theorem qn(h:Qa (env n J L)):wpQuiet P ops C Qa [] (env n J L):=wpQuiet_nil h

theorem r_mp{a:OA}(hx:ev n J L x= .pointer a):(execOp (ev n J L) ⟨some d,.move x,ty,pos,aft,none⟩).run P w= .ok (.value (.pointer a)) w:=by
 simp[execOp,hx]
theorem mp{a:OA}(hx:ev n J L x= .pointer a)(k':wpList P ops Q rest (env n J ((d,.pointer a)::L)) w):wpList P ops Q (⟨some d,.move x,ty,pos,aft,none⟩::rest) (env n J L) w:=Z6s (r_mp hx) k'
theorem r_mm{r:Option Nat}(hx:ev n J L x= .map r):(execOp (ev n J L) ⟨some d,.move x,ty,pos,aft,none⟩).run P w= .ok (.value (.map r)) w:=by
 simp[execOp,hx]
theorem mm{r:Option Nat}(hx:ev n J L x= .map r)(k':wpList P ops Q rest (env n J ((d,.map r)::L)) w):wpList P ops Q (⟨some d,.move x,ty,pos,aft,none⟩::rest) (env n J L) w:=Z6s (r_mm hx) k'
theorem Z3v{v:Value}(hx:ev n J L x=v):(execOp (ev n J L) ⟨some d,.move x,ty,pos,aft,none⟩).run P w= .ok (.value (v)) w:=by
 simp[execOp,hx]
theorem r_zb{b:Bool}(hx:ev n J L x= .bool b):(execOp (ev n J L) ⟨some d,.assign x,ty,pos,aft,none⟩).run P w= .ok (.value (.bool b)) w:=by
 simp[execOp,hx]
theorem zb{b:Bool}(hx:ev n J L x= .bool b)(k':wpList P ops Q rest (env n J ((d,.bool b)::L)) w):wpList P ops Q (⟨some d,.assign x,ty,pos,aft,none⟩::rest) (env n J L) w:=Z6s (r_zb hx) k'
theorem r_zs{a:OA}{l cap:Nat}(hx:ev n J L x= .slice a l cap):(execOp (ev n J L) ⟨some d,.assign x,ty,pos,aft,none⟩).run P w= .ok (.value (.slice a l cap)) w:=by
 simp[execOp,hx]
theorem zs{a:OA}{l cap:Nat}(hx:ev n J L x= .slice a l cap)(k':wpList P ops Q rest (env n J ((d,.slice a l cap)::L)) w):wpList P ops Q (⟨some d,.assign x,ty,pos,aft,none⟩::rest) (env n J L) w:=Z6s (r_zs hx) k'
theorem r_zx{v:Value}(hx:ev n J L x=v):(execOp (ev n J L) ⟨some d,.assign x,ty,pos,aft,none⟩).run P w= .ok (.value (v)) w:=by
 simp[execOp,hx]
theorem r_zf{f:Fn}{fi ca:Array Value}(hx:ev n J L x= .func f fi ca):(execOp (ev n J L) ⟨some d,.assign x,ty,pos,aft,none⟩).run P w= .ok (.value (.func f fi ca)) w:=by
 simp[execOp,hx]
theorem r_ib{o:BinOp}{k:IntKind}{a b:Int}{v:Value}(hx:ev n J L x= .int k a)(hy:ev n J L y= .int k b)(hr:ibin o k a b=some v):(execOp (ev n J L) ⟨some d,.binOp o t x y t2,ty,pos,aft,none⟩).run P w= .ok (.value (v)) w:=by
 simp[execOp,hx,hy,Y4o,run_ibin hr]
theorem ib{o:BinOp}{k:IntKind}{a b:Int}{v:Value}(hx:ev n J L x= .int k a)(hy:ev n J L y= .int k b)(hr:ibin o k a b=some v)(k':wpList P ops Q rest (env n J ((d,v)::L)) w):wpList P ops Q (⟨some d,.binOp o t x y t2,ty,pos,aft,none⟩::rest) (env n J L) w:=Z6s (r_ib hx hy hr) k'
theorem r_iq{k:IntKind}{a b:Int}(hx:ev n J L x= .int k a)(hy:ev n J L y= .int k b)(hb:b≠0):(execOp (ev n J L) ⟨some d,.binOp .quo t x y t2,ty,pos,aft,none⟩).run P w= .ok (.value (.int k (k.wrap (a.tdiv b)))) w:=by
 simp[execOp,hx,hy,Y4o,go_sem,Op.intDiv,hb]
theorem r_irm{k:IntKind}{a b:Int}(hx:ev n J L x= .int k a)(hy:ev n J L y= .int k b)(hb:b≠0):(execOp (ev n J L) ⟨some d,.binOp .rem t x y t2,ty,pos,aft,none⟩).run P w= .ok (.value (.int k (a.tmod b))) w:=by
 simp[execOp,hx,hy,Y4o,go_sem,Op.intDiv,hb]
theorem X4f{k k2:IntKind}{a b:Int}(hx:ev n J L x= .int k a)(hy:ev n J L y= .int k2 b)(hb:0<=b):(execOp (ev n J L) ⟨some d,.binOp .shl t x y t2,ty,pos,aft,none⟩).run P w= .ok (.value (.int k (k.wrap (a*2^(min b.toNat k.bits))))) w:=by
 simp[execOp,hx,hy,Y4o,go_sem,Op.shift,show¬b<0 by omega]
theorem X0j{k k2:IntKind}{a b:Int}(hx:ev n J L x= .int k a)(hy:ev n J L y= .int k2 b)(hb:0<=b):(execOp (ev n J L) ⟨some d,.binOp .shr t x y t2,ty,pos,aft,none⟩).run P w= .ok (.value (.int k (a.fdiv (2^(min b.toNat k.bits))))) w:=by
 simp[execOp,hx,hy,Y4o,go_sem,Op.shift,show¬b<0 by omega]
theorem r_nt{b:Bool}(hx:ev n J L x= .bool b):(execOp (ev n J L) ⟨some d,.unOp .not t x,ty,pos,aft,none⟩).run P w= .ok (.value (.bool (!b))) w:=by
 simp[execOp,hx,Op.unary]
theorem nt{b:Bool}(hx:ev n J L x= .bool b)(k':wpList P ops Q rest (env n J ((d,.bool (!b))::L)) w):wpList P ops Q (⟨some d,.unOp .not t x,ty,pos,aft,none⟩::rest) (env n J L) w:=Z6s (r_nt hx) k'
theorem r_ng{k:IntKind}{a:Int}(hx:ev n J L x= .int k a):(execOp (ev n J L) ⟨some d,.unOp .neg t x,ty,pos,aft,none⟩).run P w= .ok (.value (.int k (k.wrap (0-a)))) w:=by
 simp[execOp,hx,Op.unary,Op.intArith]
theorem r_cm{k:IntKind}{a:Int}(hx:ev n J L x= .int k a):(execOp (ev n J L) ⟨some d,.unOp .xor t x,ty,pos,aft,none⟩).run P w= .ok (.value (.int k (bits .xor k (if k.signed then -1 else k.max) a))) w:=by
 simp[execOp,hx,Op.unary,go_sem]
theorem r_pk{b:Bool}(hc:ev n J L c= .bool b):(execOp (ev n J L) ⟨some d,.pick c x y,ty,pos,aft,none⟩).run P w= .ok (.value (bif b then ev n J L x else ev n J L y)) w:=by
 cases b<;>simp[execOp,hc,go_sem]
theorem pk{b:Bool}(hc:ev n J L c= .bool b)(k':wpList P ops Q rest (env n J ((d,bif b then ev n J L x else ev n J L y)::L)) w):wpList P ops Q (⟨some d,.pick c x y,ty,pos,aft,none⟩::rest) (env n J L) w:=Z6s (r_pk hc) k'
theorem r_cv{k k2:IntKind}{a:Int}{t1:TypeId}{dd:TypeDesc}(hx:ev n J L x= .int k a)(h1:P.underlying t1=some dd)(h2:P.underlying t=some (.int k2)):(execOp (ev n J L) ⟨some d,.convert t1 t x,ty,pos,aft,none⟩).run P w= .ok (.value (.int k2 (k2.wrap a))) w:=by
 simp[execOp,hx,convert,run_underlying h1,run_underlying h2,Conv.intToInt]
theorem r_bq{a b:Bool}(hx:ev n J L x= .bool a)(hy:ev n J L y= .bool b)(ht:P.underlying t=some .bool):(execOp (ev n J L) ⟨some d,.binOp .eql t x y t2,ty,pos,aft,none⟩).run P w= .ok (.value (.bool (a==b))) w:=by
 simp[execOp,hx,hy,X2y,run_eql_bool w t a b ht]
theorem r_bn{a b:Bool}(hx:ev n J L x= .bool a)(hy:ev n J L y= .bool b)(ht:P.underlying t=some .bool):(execOp (ev n J L) ⟨some d,.binOp .neq t x y t2,ty,pos,aft,none⟩).run P w= .ok (.value (.bool (!(a==b)))) w:=by
 simp[execOp,hx,hy,X2y,run_neq_bool w t a b ht]
theorem r_ln{a:OA}{l cap:Nat}{e:TypeId}(hx:ev n J L x= .slice a l cap)(ht:P.underlying t=some (.slice e)):(execOp (ev n J L) ⟨some d,.call ⟨.builtin .len,#[x],#[t]⟩,ty,pos,aft,none⟩).run P w= .ok (.value (.int .i64 l)) w:=by
 simp[execOp,resolve,invoke,builtin,Builtin.len_,hx,run_underlying ht,goInt]
theorem r_lns{s:ByteArray}(hx:ev n J L x= .string s)(ht:P.underlying t=some .string):(execOp (ev n J L) ⟨some d,.call ⟨.builtin .len,#[x],#[t]⟩,ty,pos,aft,none⟩).run P w= .ok (.value (.int .i64 s.size)) w:=by
 simp[execOp,resolve,invoke,builtin,Builtin.len_,hx,run_underlying ht,goInt]
theorem r_ix{b off l cap sz:Nat}{k:IntKind}{i:Int}{e:TypeId}(hx:ev n J L x= .slice (some ⟨b,off,none⟩) l cap)(hy:ev n J L y= .int k i)(ht:P.underlying t=some (.slice e))(hs:∀w,(sizeOf e).run P w= .ok sz w)(h0:0<=i)(h1:i<l):(execOp (ev n J L) ⟨some d,.indexAddr t x y,ty,pos,aft,none⟩).run P w= .ok (.value (.pointer (some ⟨b,off+i.toNat*sz,none⟩))) w:=by
 simp[execOp,Instr.indexAt,hx,hy,asIntOf,run_underlying ht,h0,h1,hs,Addr.add_lit]
theorem ix{b off l cap sz:Nat}{k:IntKind}{i:Int}{e:TypeId}(hx:ev n J L x= .slice (some ⟨b,off,none⟩) l cap)(hy:ev n J L y= .int k i)(ht:P.underlying t=some (.slice e))(hs:∀w,(sizeOf e).run P w= .ok sz w)(h0:0<=i)(h1:i<l)(k':wpList P ops Q rest (env n J ((d,.pointer (some ⟨b,off+i.toNat*sz,none⟩))::L)) w):wpList P ops Q (⟨some d,.indexAddr t x y,ty,pos,aft,none⟩::rest) (env n J L) w:=Z6s (r_ix hx hy ht hs h0 h1) k'
theorem Y2x{b off sz f:Nat}{fs:Array Field}{fd:Field}(hx:ev n J L x= .pointer (some ⟨b,off,none⟩))(ht:P.underlying t=some (.struct fs))(hf:fs[f]?=some fd)(hs:∀w,(sizeOf fd.type).run P w= .ok sz w)(hz:(sz==0)=false):(execOp (ev n J L) ⟨some d,.fieldAddr t x f,ty,pos,aft,none⟩).run P w= .ok (.value (.pointer (some ⟨b,off+fd.offset,none⟩))) w:=by
 have hz':¬sz=0:=by simpa using hz
 simp[execOp,Instr.fieldAt,hx,run_underlying ht,hf,Instr.sureAddr,fieldPlace,hs,hz',Addr.add_lit]
theorem Y0i{a:Addr}{v:Value}(hx:ev n J L x= .pointer (some a))(ht:∀w,(isAgg t).run P w= .ok false w)(hc:(w).cell? a=some v):(execOp (ev n J L) ⟨some d,.load t x,ty,pos,aft,none⟩).run P w= .ok (.value (v)) w:=by
 simp[execOp,Instr.loadAt,loadVar,hx,ht,go_sem,hc,Instr.sureAddr]
theorem ld{a:Addr}{v:Value}(hx:ev n J L x= .pointer (some a))(ht:∀w,(isAgg t).run P w= .ok false w)(hc:(w).cell? a=some v)(k':wpList P ops Q rest (env n J ((d,v)::L)) w):wpList P ops Q (⟨some d,.load t x,ty,pos,aft,none⟩::rest) (env n J L) w:=Z6s (Y0i hx ht hc) k'
theorem Y9g{b off sz:Nat}{cs:Ab}(hx:ev n J L x= .pointer (some ⟨b,off,none⟩))(ht:∀w,(isAgg t).run P w= .ok true w)(hs:∀w,(sizeOf t).run P w= .ok sz w)(hl:cs.length=sz)(hc:cellsAt (w) b off cs):(execOp (ev n J L) ⟨some d,.load t x,ty,pos,aft,none⟩).run P w= .ok (.value (.agg cs.toArray)) w:=by
 subst hl;have:=run_loadCells_list (P:=P) (w:=w) ⟨b,off,none⟩ cs (fun j v hj=>by rw[Addr.add_lit];exact hc j v hj);simp[execOp,Instr.loadAt,loadVar,hx,ht,hs,Instr.sureAddr,this]
theorem r_sq{a b:ByteArray}(hx:ev n J L x= .string a)(hy:ev n J L y= .string b):(execOp (ev n J L) ⟨some d,.binOp .eql t x y t2,ty,pos,aft,none⟩).run P w= .ok (.value (.bool (a.toList==b.toList))) w:=by
 simp[execOp,hx,hy,X6a,binOp,Op.stringOp]
theorem r_sn{a b:ByteArray}(hx:ev n J L x= .string a)(hy:ev n J L y= .string b):(execOp (ev n J L) ⟨some d,.binOp .neq t x y t2,ty,pos,aft,none⟩).run P w= .ok (.value (.bool (!(a.toList==b.toList)))) w:=by
 simp[execOp,hx,hy,X6a,binOp,Op.stringOp]
theorem cellsAt.get{b off j:Nat}{cs:Ab}{u:Value}(h:cellsAt w b off cs)(hj:cs[j]?=some u):w.cell? ⟨b,off+j,none⟩=some u:=h j u hj

def yv(ops:Array Oper)(n:NF)(J:Nat->Value)(L:List (Nat×Value))(j:Nat):Option Bool:=
 match(ops[j]?).bind (·.dst)with
 |some t=>match ev n J L (.tmp t)with
  | .bool b=>some b
  |_=>none
 |none=>none

theorem Z3e(j:Nat):yielded ops (env n J L).tmps j=yv ops n J L j:=by
 unfold yielded yv;cases hd:(ops[j]?).bind (·.dst)with
 |none=>rfl
 |some t=>
  simp only[Option.bind_some]
  by_cases h:t<n.n
  . have h1:(env n J L).tmps[t]?=some (lk J L t):=by simp[env,h]
    have h2:Nat.blt t n.n=true:=by simpa[Nat.blt_eq]using h
    rw[h1]
    simp only[ev,h2]
    cases lk J L t<;>rfl
  . have h1:(env n J L).tmps[t]?=none:=by simp[env];exact Nat.le_of_not_lt h
    have h2:Nat.blt t n.n=false:=by
     cases hb:Nat.blt t n.n with
     |false=>rfl
     |true=>exact absurd (by simpa[Nat.blt_eq]using hb) h
    rw[h1]
    simp only[ev,h2,undef]

theorem gt{j:Nat}{b:Bool}{dst:Option Nat}(hy:yv ops n J L j=some b)(k:wpList P ops Q (⟨dst,op,ty,pos,aft,none⟩::rest) (env n J L) w):
 wpList P ops Q (⟨dst,op,ty,pos,aft,some (j,b)⟩::rest) (env n J L) w:=by
 unfold wpList at k⊢;rw[if_pos (by simp[Region.wanted])]at k;rw[if_pos (by simp[Region.wanted,Z3e,hy])];exact k
theorem qgt{j:Nat}{b:Bool}{dst:Option Nat}(hy:yv ops n J L j=some b)(k:wpQuiet P ops C Qa (⟨dst,op,ty,pos,aft,none⟩::rest) (env n J L)):
 wpQuiet P ops C Qa (⟨dst,op,ty,pos,aft,some (j,b)⟩::rest) (env n J L):=by
 unfold wpQuiet at k⊢;rw[if_pos (by simp[Region.wanted])]at k;rw[if_pos (by simp[Region.wanted,Z3e,hy])];exact k
theorem gf{j:Nat}{b:Bool}{z:Option Bool}(hy:yv ops n J L j=z)(hz:(z==some b)=false)(k:wpList P ops Q rest (env n J ((d,undef)::L)) w):
 wpList P ops Q (⟨some d,op,ty,pos,aft,some (j,b)⟩::rest) (env n J L) w:=by
 unfold wpList;rw[if_neg (by simp[Region.wanted,Z3e,hy];simpa using hz),Q7r];exact k
theorem qgf{j:Nat}{b:Bool}{z:Option Bool}(hy:yv ops n J L j=z)(hz:(z==some b)=false)(k:wpQuiet P ops C Qa rest (env n J ((d,undef)::L))):
 wpQuiet P ops C Qa (⟨some d,op,ty,pos,aft,some (j,b)⟩::rest) (env n J L):=by
 unfold wpQuiet;rw[if_neg (by simp[Region.wanted,Z3e,hy];simpa using hz),Q7r];exact k

theorem rg{id:Nat}{l:Ah}{a:Act}(h:wpList P l.toArray Q l a w):(Code.region id l.toArray false).wp P Q a w:=wp_region_lit h
theorem rq{id:Nat}{l:Ah}{a:Act}(hm:P.follows .mixedOrders=true)(hB:Region.lexB .any l.toArray=true)(hb:Bd T w)
 (h:wpQuiet P l.toArray (QC T w) (fun a'=>∀w' T',Inn w.heap.size noB T w T' w'->Q .normal a' w') l a):(Code.region id l.toArray true).wp P Q a w:=
 wp_region_quiet (C:=QC T w) hm hB ⟨T,(Inn.refl hb (qD _)).ch0 (Ch.drew noB w)⟩ (by
  have hQ:(fun a'=>∀w' T',Inn w.heap.size noB T w T' w'->Q .normal a' w')=(fun a'=>∀w',QC T w w'->Q .normal a' w'):=by
   funext a'
   exact propext ⟨fun h w' ⟨T',hi⟩=>h w' T' hi,fun h w' T' hi=>h w' ⟨T',hi⟩⟩
  rw[hQ]at h
  simpa using h)
theorem nil{a:Act}(h:Q .normal a w):wpList P ops Q [] a w:=h

section control
variable{x y:Code}{a:Act}{K:Act->World->Prop}{i j:Nat}
theorem sq2(h:x.wp P (Exit.then (y.wp P Q) Q) a w):(Code.seq x y).wp P Q a w:=wp_seq h
theorem cut(K:Act->World->Prop)(h:x.wp P (Exit.then K Q) a w)(k:∀a w,K a w->y.wp P Q a w):(Code.seq x y).wp P Q a w:=
 wp_seq (wp_mono h fun e a w hq=>by cases e<;>first|exact k _ _ hq|exact hq)
theorem Y6v(h:K a w):Exit.then K Q .normal a w:=h
theorem t_blk(h:Q .normal a w):Exit.inBlock i Q .normal a w:=h
theorem x_then(h:Q (.exit i) a w):Exit.then K Q (.exit i) a w:=h
theorem x_eq(h:Q .normal a w):Exit.inBlock i Q (.exit i) a w:=(if_pos rfl).mpr h
theorem x_ne(hn:i≠j)(h:Q (.exit i) a w):Exit.inBlock j Q (.exit i) a w:=(if_neg hn).mpr h
theorem r_then(h:Q .ret a w):Exit.then K Q .ret a w:=h
theorem r_blk(h:Q .ret a w):Exit.inBlock i Q .ret a w:=h
theorem cnd{b:Bool}{cc:Operand}(hc:ev n J L cc= .bool b)(h1:b=true->x.wp P Q (env n J L) w)(h2:b=false->y.wp P Q (env n J L) w):(Code.cond cc x y).wp P Q (env n J L) w:=
 wp_cond_split (by rw[Q1c];exact hc) h1 h2
theorem cndH{b:Bool}{cc:Operand}{α:Type}{X Y Z:α}(hc:ev n J L cc= .bool b)(hm:(bif b then X else Y)=Z)(h1:b=true->X=Z->x.wp P Q (env n J L) w)(h2:b=false->Y=Z->y.wp P Q (env n J L) w):(Code.cond cc x y).wp P Q (env n J L) w:=
 cnd hc (fun h=>h1 h (by subst h;exact hm)) (fun h=>h2 h (by subst h;exact hm))
theorem skp(h:Q .normal a w):Code.skip.wp P Q a w:=wp_skip h
theorem blk(h:x.wp P (Exit.inBlock i Q) a w):(Code.block i x).wp P Q a w:=wp_block h
theorem xt(h:Q (.exit i) a w):(Code.exit i).wp P Q a w:=wp_exit h
theorem rtn(h:Q .ret a w):Code.ret.wp P Q a w:=wp_ret h
end control

def Y3i:Nat->Ab->List (Nat×Value)
 |_,[]=>[]
 |i,v::r=>(i,v)::Y3i (i+1) r
theorem Y3h{n:NF}(J:Nat->Value):∀(args:Ab)(k:Nat),(∀i v,args[i]?=some v->J (k+i)=v)->Has n J [] (Y3i k args)
 |[],_,_=>trivial
 |v::r,k,h=>⟨h 0 v rfl,Y3h J r (k+1) fun i u hu=>by rw[show k+1+i=k+(i+1) by omega];exact h (i+1) u hu⟩
theorem enter{f:FuncId}{fn:Func}{cd:Code}{args:Ab}{R:Ending->World->Prop}{m:Nat}(hf:P.funcs[f]?=some fn)(hb:fn.body=some cd)(hm:fn.ntmps=m)(hl:Nat.ble args.length m=true)
 (h:∀J,cd.wp P (bodyPost P fn R) (env (nf m) J (Y3i 0 args)) w):Calls P f args.toArray w R:=by
 refine calls_of_wp hf hb ?_;have hl':args.length<=m:=kN hl
 have e:(⟨args.toArray++Array.replicate (fn.ntmps-args.toArray.size) undef,[]⟩:Act)=env (nf m) (fun i=>args.getD i undef) []:=by
  unfold env
  congr 1
  apply Array.ext
  . simp;omega
  . intro i h1 h2;have him:i<m:=by simpa using h2
    by_cases hi:i<args.length
    . simp[lk,hi,List.getD]
    . simp[lk,hi,Array.getElem_append,List.getD]
 rw[e];have hz:Has (nf m) (fun i=>args.getD i undef) [] (Y3i 0 args):=Y3h _ args 0 fun i v hv=>by simp[List.getD,hv]
 have:env (nf m) (fun i=>args.getD i undef) []=env (nf m) (lk (fun i=>args.getD i undef) []) (Y3i 0 args):=by unfold env;rw[Y7r (nf m) _ [] _ hz]
 rw[this];exact h _

theorem X1d{M:List (Nat×Value)}(h:Has n J L M):env n J L=env n (lk J L) M:=by unfold env;rw[Y7r n J L M h]

theorem ret1{m:Nat}{fn:Func}{tt:Tmp}{R:Ending->World->Prop}{v:Value}(hr:fn.results=#[.tmp tt])(hv:ev (nf m) J L (.tmp tt)=v)(hR:R (.returned v) w):bodyPost P fn R .ret (env (nf m) J L) w:=
 bodyPost_ret (results_tmp hr _ _ _) rfl (by
  have:(env (nf m) J L).tmps.getD tt undef=v:=by rw[<-hv,<-Q1c];rfl
  rw[this];exact hR)
theorem ret2{m:Nat}{fn:Func}{t1 t2:Tmp}{R:Ending->World->Prop}{v1 v2:Value}(hr:fn.results=#[.tmp t1,.tmp t2])(h1:ev (nf m) J L (.tmp t1)=v1)(h2:ev (nf m) J L (.tmp t2)=v2)(hR:R (.returned (.tuple #[v1,v2])) w):bodyPost P fn R .ret (env (nf m) J L) w:=
 bodyPost_ret (results_tmp2 hr _ _ _) rfl (by
  have e1:(env (nf m) J L).tmps.getD t1 undef=v1:=by rw[<-h1,<-Q1c];rfl
  have e2:(env (nf m) J L).tmps.getD t2 undef=v2:=by rw[<-h2,<-Q1c];rfl
  rw[e1,e2];exact hR)
end
structure Z2m(P:Program)(f:FuncId):Prop where
 ex:∃fn,P.funcs[f]?=some fn/\(fn.name== "runtime.NumGoroutine")=false/\fn.body.isNone=false

def Dj(v:Value)(b:Nat):Prop:=∀k,v.ownBlock=some k->k≠b
def ownS(v:Value):Nat->Prop:=fun k=>v.ownBlock=some k

def Y6h{K V:Type}(enk:K->Value)(env:V->Value)(w:World)(b:Nat)(m:List (K×V)):Prop:=
 ∃es clock,w.heap[b]?=some (.map es clock)/\es.toList.map (fun e=>(e.key,e.val))=m.map (fun p=>(enk p.1,env p.2))

theorem Y6h.lt{K V:Type}{enk:K->Value}{en:V->Value}{w:World}{b:Nat}{m:List (K×V)}(h:Y6h enk en w b m):b<w.heap.size:=let⟨_,_,h,_⟩:=h;hlt h
theorem Y6h.keep{K V:Type}{enk:K->Value}{en:V->Value}{w w':World}{b B:Nat}{m:List (K×V)}{M T T':TP}(h:Y6h enk en w b m)(i:Inn B M T w T' w')(hB:¬(B<=b\/M b)):Y6h enk en w' b m:=
 let⟨es,c,h,e⟩:=h
 ⟨es,c,i.ch.keep h hB,e⟩
theorem OwS.lt{α:Type}{r:Rp α}{e:TypeId}{B:Nat}{T:TP}{w:World}{v:Value}{l:List α}(h:OwS r e B T w v l):∀k,v.ownBlock=some k->B<=k/\k<w.heap.size:=let⟨_,_,h,_⟩:=h;h.lt
theorem OwS.shape{α:Type}{r:Rp α}{e:TypeId}{B:Nat}{T:TP}{w:World}{v:Value}{l:List α}(h:OwS r e B T w v l):∃a c,v= .slice a l.length c:=by
 obtain⟨css,_,h,_⟩:=h
 rcases h.2 with⟨hv,h0⟩|⟨g,cap,cur,hv,_⟩
 . exact⟨_,0,by rw[hv,h0]⟩
 . exact⟨_,_,hv⟩
theorem SlR.shape{α:Type}{r:Rp α}{T:TP}{w:World}{v:Value}{l:List α}(h:SlR r T w v l):∃a c,v= .slice a l.length c:=let⟨a,c,h,_⟩:=h;⟨a,c,h⟩
theorem OwS.nil{α:Type}{r:Rp α}{e:TypeId}{B:Nat}{T:TP}{w:World}:OwS r e B T w (.slice none 0 0) []:=
 ⟨[],rfl,World.ownsRow_nil _ _ _ _,fun i cs x h=>by simp at h,fun g hg=>by simp[Value.ownBlock]at hg⟩

theorem Z5v{css:List (Ab)}{sz:Nat}(hs:∀cs∈css,cs.length=sz):∀{i:Nat}{cs:Ab}{j:Nat}{u:Value},css[i]?=some cs->cs[j]?=some u->css.flatten[i*sz+j]?=some u:=by
 induction css with
 |nil=>intro i cs j u h;simp at h
 |cons c css ih=>
  intro i cs j u h hj;have hc:c.length=sz:=hs c (by simp);cases i with
  |zero=>
   simp at h
   subst h
   have:j<c.length:=by
    rcases Nat.lt_or_ge j c.length with h'|h'
    . exact h'
    . rw[kU h']at hj;cases hj
   simp[kR this,hj]
  |succ i=>
   simp at h
   have:=ih (fun cs hcs=>hs cs (by simp[hcs])) h hj;rw[List.flatten_cons,kS (by rw[hc,Nat.succ_mul];omega),<-this]
   congr 1
   rw[hc,Nat.succ_mul];omega

theorem OwS.sizes{α:Type}{r:Rp α}{T:TP}{w:World}{l:List α}{css:List (Ab)}(h1:css.length=l.length)
 (h3:∀(i:Nat)(cs:Ab)(x:α),css[i]?=some cs->l[i]?=some x->r.rp T w cs x):∀cs∈css,cs.length=r.sz:=by
 intro cs hcs;obtain⟨i,hi,he⟩:=List.getElem_of_mem hcs;have hl:i<l.length:=by omega
 exact r.len (h3 i cs l[i] (by rw[kM hi,he]) (kM hl))

theorem OwS.atI{α:Type}{r:Rp α}{e:TypeId}{B:Nat}{T:TP}{w:World}{v:Value}{l:List α}(h:OwS r e B T w v l){i:Nat}{x:α}(hi:l[i]?=some x):
 ∃b cap cs,v= .slice (some ⟨b,0,none⟩) l.length cap/\i<l.length/\r.rp T w cs x/\cellsAt w b (0+i*r.sz) cs:=by
 obtain⟨css,h1,h2,h3,h4⟩:=h
 have hl:i<l.length:=by
  rcases Nat.lt_or_ge i l.length with h|h
  . exact h
  . rw[kU h]at hi;cases hi
 have hs:=OwS.sizes h1 h3;have hcs:css[i]?=some css[i]:=kM (by omega);have h2':=h2
 rcases h2.2 with⟨hv,h0⟩|⟨g,cap,cur,hv,_⟩
 . omega
 . refine⟨g,cap,css[i],hv,hl,h3 i _ x hcs hi,fun j u hj=>?_⟩;have hf:=Z5v hs hcs hj;have:=h2'.cells (g:=g) (by rw[hv];rfl) _ _ hf
   simpa[Addr.add_lit]using this

def sealT(T:TP)(v:Value):Nat->Prop:=fun k=>T k\/v.ownBlock=some k

theorem OwS.sealR{α:Type}{r:Rp α}{e:TypeId}{B:Nat}{T:TP}{w:World}{v:Value}{l:List α}(h:OwS r e B T w v l):SlR r (sealT T v) w v l:=by
 have hat:=fun(i:Nat)(x:α)(hi:l[i]?=some x)=>h.atI hi;obtain⟨css,h1,h2,h3,h4⟩:=h
 rcases h2.2 with⟨hv,h0⟩|⟨g,cap,cur,hv,hb,hg,hn,hm,_⟩
 . exact⟨none,0,by rw[hv,h0],by omega,by simp[maxLen],.inl (List.eq_nil_of_length_eq_zero h0)⟩
 . refine⟨some ⟨g,0,none⟩,cap,hv,hn,hm,.inr ⟨g,0,rfl,.inr (by rw[hv];rfl),fun i x hi=>?_⟩⟩;obtain⟨b,cap',cs,hv',_,hr,hc⟩:=hat i x hi;rw[hv]at hv';cases hv';exact⟨cs,r.mono (fun k hk=>⟨.inl hk,rfl⟩) hr,hc⟩

section
variable{P:Program}{ops:Array Oper}{Q:Ac}{rest:Ah}{n:NF}{J:Nat->Value}{L:List (Nat×Value)}{w w' w0:World}
 {d:Nat} {ty:TypeId} {pos:String} {aft:Ag} {op:Op} {v:Value} {x y c:Operand} {t t2:TypeId} {T:TP} {KK:Act->World->Prop} {Qa:Act->Prop} {C:World->Prop}

theorem Z2y(hb:Bd T w)(o:Obj):Inn w.heap.size noB T w T (w.alloc o):=(Inn.refl hb (qD _)).ch0 (Ch.alloc noB w o)
theorem Y0t(hb:Bd T w):¬T w.heap.size:=fun h=>absurd (hb _ h) (Nat.lt_irrefl _)

theorem al{z:Value}{zs:Ab}(hz:∀w,(zeroValue t).run P w= .ok z w)(hc:z.cells.toList=zs)(hb:Bd T w)
 (k:∀w' b,Inn w.heap.size noB T w T w'->Box w' b zs->w.heap.size<=b->¬T b->KK (env n J ((d,.pointer (some ⟨b,0,none⟩))::L)) w'):
 Oper.wp P ⟨some d,.alloc t,ty,pos,aft,none⟩ (env n J L) w KK Q:=by
 subst hc;refine Y2h (w':=w.alloc (.cells z.cells t)) (v:= .pointer (some ⟨w.heap.size,0,none⟩)) ?_ (k _ _ (Z2y hb _) ⟨t,?_⟩ (qD _) (Y0t hb))
 . simp only[execOp,Instr.alloc,newVar,Sem.run_bind,hz,kT];rfl
 . rw[show(w.alloc (.cells z.cells t)).heap[w.heap.size]?=some (.cells z.cells t)from heap_alloc_new w _]

def Q0e(cur:Ab)(o:Nat)(cs:Ab):Ab:=cur.take o++cs++cur.drop (o+cs.length)

theorem st{b o sz:Nat}{cs cur:Ab}{v:Value}(hx:ev n J L x= .pointer (some ⟨b,o,none⟩))(hy:ev n J L y=v)(hv:v.cells.toList=cs)(hs:∀w,(sizeOf t).run P w= .ok sz w)(hl:cs.length=sz)
 (h1:cs.all Value.oneCell'=true) (hbx:Box w b cur) (hfit:Nat.ble (o+cs.length) cur.length=true) (hT:¬T b) (hb:Bd T w)
 (k:∀w',Inn w.heap.size (·=b) T w T w'->Box w' b (Q0e cur o cs)->KK (env n J L) w'):
 Oper.wp P ⟨none,.store t x y,ty,pos,aft,none⟩ (env n J L) w KK Q:=by
 subst hl;subst hv;obtain⟨e,hg⟩:=hbx;have hst:=run_storeCells_at P b o e v.cells.toList 0 cur.toArray w hg (by simpa using kN hfit) (fun u hu=>List.all_eq_true.1 h1 u hu);refine X0b (w':=w.setRow b (Q0e cur o v.cells.toList).toArray) ?_ (k _ ((Inn.refl hb (qD _)).ch1 (Ch.setRow (S:=(·=b)) w b _ rfl) fun k hk=>⟨hk▸hT,.inr hk⟩) ⟨e,setRow_heap w b _ _ e _ hg⟩)
 simp only[Nat.add_zero]at hst
 simp only[execOp,Instr.storeAt,storeVar,hx,hy,Instr.sureAddr,Sem.run_bind,Sem.run_pure,kT,hs]
 rw[if_neg (by simp)]
 simp only[kT,hst]
 rfl

theorem Z2u{f:FuncId}{fn:Func}(h1:P.funcs[f]?=some fn)(h2:(fn.name== "runtime.NumGoroutine")=false)(h3:fn.body.isNone=false)(args:Array Value):(callFunc f args).run P w= .ok (.enter f args) w:=by
 simp only[callFunc,program,Sem.run_bind,Sem.run,Result.andThen,h1,h2,h3,Bool.false_eq_true,if_false]
 rfl

theorem bs{e:TypeId}{len sz:Nat}{z:Value}{parts:Array (Nat×Operand)}{cells:Array Value}{cs:Ab}(ht:P.underlying t=some (.slice e))(hs:∀w,(sizeOf e).run P w= .ok sz w)(hz:∀w,(zeroValue e).run P w= .ok z w)
 (hle:Nat.ble (len*sz) 16777216=true) (h0:Nat.ble 1 (len*sz)=true) (hf:Instr.fill (fun i=>some (i*sz,sz)) ((Array.range (len*sz)).map (z.cells[·%z.cells.size]!)) (parts.toList.map fun p=>(p.1,ev n J L p.2))=some cells)
 (hcs:cells.toList=cs) (hb:Bd T w)
 (k:∀w' b,Inn w.heap.size noB T w T w'->Box w' b cs->w.heap.size<=b->¬T b->KK (env n J ((d,.slice (some ⟨b,0,none⟩) len len)::L)) w'):
 Oper.wp P ⟨some d,.buildSlice t len parts,ty,pos,aft,none⟩ (env n J L) w KK Q:=by
 subst hcs;have hle':=kN hle;have h0':=kN h0;refine Y2h (w':=w.alloc (.cells cells e)) (v:= .slice (some ⟨w.heap.size,0,none⟩) len len) ?_ (k _ _ (Z2y hb _) ⟨e,?_⟩ (qD _) (Y0t hb))
 . have hn:¬len*sz=0:=by omega
   have hn2:¬len*sz>2^24:=by omega
   have hp:(Array.map (fun p:Nat×Operand=>(p.1,ev n J L p.2)) parts).toList=parts.toList.map fun p=>(p.1,ev n J L p.2):=by simp
   simp only[execOp,Instr.buildSlice,Sem.run_bind,run_underlying ht,kT,hs,if_neg hn2,if_neg hn,hz,Sem.run_pure,hp,hf,pure_bind]
   rfl
 . rw[show(w.alloc (.cells cells e)).heap[w.heap.size]?=some (.cells cells e)from heap_alloc_new w _]
end
structure Q1g(P:Program)(e:TypeId)(sz:Nat):Prop where
 inf:(P.info? e).map (fun i=>(i.zero.map (fun z=>z.cells.size),i.size,Nat.ble i.bytes 16384))=some (some sz,sz,true)
 pos:0<sz
theorem Q1g.ex{P:Program}{e:TypeId}{sz:Nat}(h:Q1g P e sz):∃i z,P.info? e=some i/\i.zero=some z/\i.size=sz/\z.cells.size=sz/\0<sz/\i.bytes<=16384:=by
 obtain⟨h1,h2⟩:=h;cases hi:P.info? e with
 |none=>rw[hi]at h1;cases h1
 |some i=>
  rw[hi]at h1
  simp only[Option.map_some,Option.some.injEq,Prod.mk.injEq]at h1
  obtain⟨a,b,c⟩:=h1;cases hz:i.zero with
  |none=>rw[hz]at a;cases a
  |some z=>
   rw[hz]at a
   simp only[Option.map_some,Option.some.injEq]at a
   exact⟨i,z,rfl,hz,b,a,h2,kN c⟩

theorem X1n{P:Program}(w:World)(base:Nat)(t ty e:TypeId)(i:TypeInfo)(z:Value)(size bytes:Nat)(ht:P.underlying t=some (.slice e))(hi:P.info? e=some i)(hz:i.zero=some z)
 (hsize:i.size=size) (hby:i.bytes=bytes) (hzs:z.cells.size=size) (hsz:0<size)
 (v:Value) (n:Nat) (xs:Ab) (hown:w.ownsRow base e size v n xs)
 (a:Addr) (m c:Nat) (news:Ab) (hl:news.length=m*size) (hnews:∀j u,news[j]?=some u->w.cell? (a.add j)=some u) (h1:∀u∈news,u.oneCell'=true)
 (h63:n+m<=maxLen) (hbytes:(n+m)*bytes<=140737488355328) (hbase:base<=w.heap.size):
 ∃v' w',(Builtin.append_ #[t,t] ty #[v,.slice (some a) m c]).run P w= .ok v' w'/\w'.ownsRow base e size v' (n+m) (xs++news)/\w.grownBy w' v.ownBlock/\
  (v'.ownBlock=v.ownBlock\/v'.ownBlock=some w.heap.size):=by
 obtain⟨v',w',hr,ho,hg,hn⟩:=run_append_own (P:=P) w base t ty e i z size bytes ht hi hz hsize hby hzs hsz v n xs hown a m c news hl hnews h1 h63 hbytes hbase;refine⟨v',w',hr,ho,hg,?_⟩
 have same:∀{u:Value}{w2:World},(Builtin.append_ #[t,t] ty #[v,.slice (some a) m c]).run P w= .ok u w2->v'=u:=fun h=>by
  rw[hr]at h;cases h
  rfl
 have hbig:n+m<=9223372036854775807:=by simp only[maxLen]at h63;omega
 subst hsize;subst hby
 rcases hown.2 with⟨rfl,rfl⟩|⟨g,cap,cur,rfl,_,hgg,hnc,_,hcs,htake⟩
 . by_cases hm:m=0
   . exact .inl (by rw[hn.2 ⟨rfl,hm⟩])
   . rw[same (run_append_nil (P:=P) w t ty e i z ht hi hz a m c news hl hnews (by omega) (by omega) (by have h:=hbytes;simp only[Nat.zero_add]at h;omega))];exact .inr rfl
 . by_cases hroom:n+m<=cap
   . have hfit:n*i.size+news.length<=cur.size:=by
      rw[hl,hcs,<-Nat.add_mul];exact Nat.mul_le_mul_right _ hroom
     rw[same (run_append_room (P:=P) w t ty e i ht hi g n cap cur hgg a m c news hl hnews h1 hroom hfit)];exact .inl rfl
   . rw[same (run_append_grow (P:=P) w t ty e i z ht hi hz ⟨g,0,none⟩ n cap xs hown.1 (hown.cells (g:=g) rfl) a m c news hl hnews (by omega) (by omega) (growslice_fits (by omega) hbytes))];exact .inr rfl

section
variable{P:Program}{ops:Array Oper}{Q:Ac}{rest:Ah}{n:NF}{J:Nat->Value}{L:List (Nat×Value)}{w w' w0:World}
 {d:Nat} {ty:TypeId} {pos:String} {aft:Ag} {op:Op} {v:Value} {x y c:Operand} {t t2:TypeId} {T:TP} {KK:Act->World->Prop}

theorem X6g{α:Type}{r:Rp α}{e:TypeId}{B cp:Nat}{l us:List α}{ad:Addr}{css:List (Ab)}(hx:ev n J L x=v)(ho:OwS r e B T w v l)(hy:ev n J L y= .slice (some ad) us.length cp)
 (hlen:css.length=us.length) (hr:∀(i:Nat)(cs:Ab)(u:α),css[i]?=some cs->us[i]?=some u->r.rp T w cs u) (hc:∀j u,css.flatten[j]?=some u->w.cell? (ad.add j)=some u)
 (ht:P.underlying t=some (.slice e)) (he:Q1g P e r.sz) (hroom:l.length+us.length<=8589934592) (hb:Bd T w) (hB:B<=w.heap.size)
 (k:∀v' w',Inn w.heap.size (ownS v) T w T w'->OwS r e B T w' v' (l++us)->(∀b,b<w.heap.size->Dj v b->Dj v' b)->KK (env n J ((d,v')::L)) w'):
 Oper.wp P ⟨some d,.call ⟨.builtin .append,#[x,y],#[t,t]⟩,ty,pos,aft,none⟩ (env n J L) w KK Q:=by
 obtain⟨i,z,hi,hz,hsz,hzs,hpos,hby⟩:=he.ex;have ho':=ho;obtain⟨cs0,h1,h2,h3,h4⟩:=ho;have hs1:=OwS.sizes hlen hr
 have hfl:css.flatten.length=us.length*r.sz:=by
  rw[List.length_flatten,<-hlen]
  clear hc hr hlen
  induction css with
  |nil=>simp
  |cons c css ih=>simp[hs1 c (by simp),ih (fun cs h=>hs1 cs (by simp[h])),Nat.succ_mul,Nat.add_comm]
 have hml:l.length+us.length<=maxLen:=by simp only[maxLen];omega
 obtain⟨v',w',hrun,hown,hgr,hblk⟩:=X1n (P:=P) w B t ty e i z r.sz i.bytes ht hi hz hsz rfl hzs hpos v l.length cs0.flatten h2 ad us.length cp css.flatten hfl hc
  (by
   intro u hu;obtain⟨cs,hcs,hu⟩:=List.mem_flatten.1 hu;obtain⟨j,hj,hje⟩:=List.getElem_of_mem hcs;have hjl:j<us.length:=by omega
   exact r.one (hr j cs us[j] (by rw[kM hj,hje]) (kM hjl)) u hu)
  hml (jH (Nat.mul_le_mul hroom hby) (by decide)) hB
 have hT:∀g,v.ownBlock=some g->¬T g:=h4
 have hinn:Inn w.heap.size (ownS v) T w T w':=
  ⟨⟨hgr.os,hgr.tape,hgr.output,hgr.size,fun b hb' hn=>hgr.block b hb' (fun hh=>hn (.inr hh.symm))⟩,fun b hb'=>⟨hb',hgr.block b (hb b hb') (fun hh=>hT b hh.symm hb')⟩,fun _ _ h=>h,fun b hb'=>jM (hb b hb') hgr.size,hgr.size⟩
 have hT':∀g,v'.ownBlock=some g->¬T g:=by
  intro g hg
  rcases hblk with hblk|hblk
  . exact hT g (hblk▸hg)
  . rw[hblk]at hg;cases hg;exact Y0t hb
 refine Y2h (w':=w') (v:=v') ?_ (k v' w' hinn ⟨cs0++css,by simp[h1,hlen],?_,?_,hT'⟩ ?_)
 . simp only[execOp,resolve,invoke,builtin,Sem.run_bind,Sem.run_pure,kT,List.map_toArray,List.map_cons,List.map_nil,hx,hy,hrun]
 . rw[List.flatten_append,qW];exact hown
 . intro j cs u hcs hu
   rcases Nat.lt_or_ge j l.length with hj|hj
   . rw[kR (by omega)]at hcs hu;exact r.mono hinn.imm (h3 j cs u hcs hu)
   . rw[kS (by omega)]at hcs hu;exact r.mono hinn.imm (hr (j-l.length) cs u (by rw[<-h1];exact hcs) hu)
 . intro b hb' hd g hg
   rcases hblk with hblk|hblk
   . exact hd g (hblk▸hg)
   . rw[hblk]at hg;cases hg;omega

end
structure Y2t{K:Type}[DecidableEq K](kd:TypeDesc)(enk:K->Value):Prop where
 same:∀a b,Instr.sameNow kd (enk a) (enk b)=some (decide (a=b))
 bits:∀a,Instr.sameBits 10000 (enk a) (enk a)=true
 chk:∀(P:Program)(w:World)(kt:TypeId)(em:Bool)(a:K),P.underlying kt=some kd->(Instr.checkKey em 10000 kt (enk a)).run P w= .ok () w

theorem X0z(k:IntKind):Y2t (.int k) (Value.int k) where
 same:=fun a b=>by simp[Instr.sameNow];exact Bool.eq_iff_iff.2 (by simp)
 bits:=fun a=>by
  have:∀n,Instr.sameBits n (.int k a) (.int k a)=true:=by intro n;cases n<;>simp[Instr.sameBits]
  exact this _
 chk:=fun P w kt em a h=>by
  have:∀n,(Instr.checkKey em (n+1) kt (.int k a)).run P w= .ok () w:=by intro n;simp[Instr.checkKey,run_underlying h]
  exact this 9999

section
variable{K V:Type}[DecidableEq K]{kd:TypeDesc}{enk:K->Value}{en:V->Value}

theorem Y1e(hk:Y2t kd enk)(k:K):∀(es:List MapEntry)(m:List (K×V))(i:Nat),es.map (fun e=>(e.key,e.val))=m.map (fun p=>(enk p.1,en p.2))->
 (Q9n m k=none/\Instr.findNow kd (enk k) es i=some none/\Q8w m k=fun v=>m++[(k,v)])\/
 (∃(j:Nat)(v:V)(e:MapEntry),Q9n m k=some v/\Instr.findNow kd (enk k) es i=some (some (i+j,en v))/\es[j]?=some e/\e.key=enk k/\j<m.length/\(Q8w m k=fun v=>m.set j (k,v))/\mDel m k=m.eraseIdx j)
 |[],m,i,h=>by
  have:m=[]:=by simpa using h.symm
  subst this
  exact .inl ⟨rfl,rfl,rfl⟩
 |e::es,[],i,h=>by simp at h
 |e::es,p::m,i,h=>by
  simp only[List.map_cons,List.cons.injEq,Prod.mk.injEq]at h
  obtain⟨⟨h1,h2⟩,h3⟩:=h
  simp only[Instr.findNow,h1,hk.same]
  by_cases hkp:k=p.1
  . refine .inr ⟨0,p.2,e,?_,?_,rfl,by rw[h1,hkp],by simp,?_,?_⟩
    . simp[Q9n,hkp]
    . simp[hkp,h2]
    . funext v;simp[Q8w,hkp]
    . simp[mDel,hkp]
  . have hd:decide (k=p.1)=false:=by simpa using hkp
    rw[hd]
    rcases Y1e hk k es m (i+1) h3 with⟨a1,a2,a3⟩|⟨j,v,e',a1,a2,a3,a4,a5,a6,a7⟩
    . exact .inl ⟨by simp[Q9n,hkp,a1],a2,by funext v;simp[Q8w,hkp,a3]⟩
    . refine .inr ⟨j+1,v,e',by simp[Q9n,hkp,a1],?_,by simpa using a3,a4,by simp;omega,?_,?_⟩
      . simp only[a2];rw[show i+1+j=i+(j+1) by omega]
      . funext v';simp[Q8w,hkp,a6]
      . simp[mDel,hkp,a7]
end

section
variable{P:Program}{ops:Array Oper}{Q:Ac}{rest:Ah}{n:NF}{J:Nat->Value}{L:List (Nat×Value)}{w w' w0:World}
 {d:Nat} {ty:TypeId} {pos:String} {aft:Ag} {op:Op} {v:Value} {x y c:Operand} {t t2:TypeId} {T:TP} {KK:Act->World->Prop} {Qa:Act->Prop} {C:World->Prop}
 {K V:Type} [DecidableEq K] {kd:TypeDesc} {enk:K->Value} {en:V->Value} {b:Nat} {m:List (K×V)}

theorem mk(hb:Bd T w)(k:∀w' b,Inn w.heap.size noB T w T w'->(∀(K V:Type)(enk:K->Value)(en:V->Value),Y6h enk en w' b [])->w.heap.size<=b->¬T b->KK (env n J ((d,.map (some b))::L)) w'):
 Oper.wp P ⟨some d,.makeMap t none,ty,pos,aft,none⟩ (env n J L) w KK Q:=by
 refine Y2h (w':=w.alloc (.map #[] 0)) (v:= .map (some w.heap.size)) ?_ (k _ _ (Z2y hb _) (fun _ _ _ _=>⟨#[],0,?_,by simp⟩) (qD _) (Y0t hb))
 . simp only[execOp,Instr.makeMap,Option.map_none,Sem.run_bind,Sem.run_pure];rfl
 . rw[show(w.alloc (.map #[] 0)).heap[w.heap.size]?=some (.map #[] 0)from heap_alloc_new w _]

theorem Z4w{es:Array MapEntry}{clock:Nat}(h:w.heap[b]?=some (.map es clock)):(getObj b).run P w= .ok (.map es clock) w:=by simp[getObj,Sem.run,h]

theorem Z3j{kt:TypeId}{es:List MapEntry}{r:Option (Nat×Value)}{k:Value}(hu:P.underlying kt=some kd)(h:Instr.findNow kd k es 0=some r):(Instr.findKey kt k es).run P w= .ok r w:=by
 simp[Instr.findKey,run_underlying hu,h]

theorem X4e{kt et:TypeId}{z:Value}{ok:Bool}(hm:Y6h enk en w b m)(hk:Y2t kd enk)(ht:P.underlying t=some (.map kt et))(hu:P.underlying kt=some kd)(hz:∀w,(zeroValue et).run P w= .ok z w)(k:K):
 (Instr.lookup t (.map (some b)) (enk k) ok).run P w= .ok (if ok then .tuple #[((Q9n m k).map en).getD z,.bool (Q9n m k).isSome]else((Q9n m k).map en).getD z) w:=by
 obtain⟨es,clock,hg,he⟩:=hm;unfold Instr.lookup
 simp only[Sem.run_bind,run_underlying ht,kT,Z4w hg,Sem.run_pure,hk.chk P w kt es.isEmpty k hu]
 rcases Y1e hk k es.toList m 0 he with⟨a1,a2,_⟩|⟨j,v,e',a1,a2,_⟩
 . simp[Z3j hu a2,hz,a1]
 . simp[Z3j hu a2,a1]

def Z4c(w:World)(b:Nat)(o:Obj):World:={w with heap:=w.heap.setIfInBounds b o}
theorem X7g(w:World)(b:Nat)(o:Obj):Ch (·=b) w (Z4c w b o):=
 ⟨rfl,rfl,rfl,by simp[Z4c],fun k hk hn=>by simp[Z4c,Ne.symm hn]⟩
theorem Y5w{w:World}{b:Nat}{o o':Obj}(h:w.heap[b]?=some o):(Z4c w b o').heap[b]?=some o':=by
 have:=hlt h
 simp[Z4c,this]
theorem Y6z{o:Obj}{es:Array MapEntry}{clock:Nat}(h:w.heap[b]?=some (.map es clock)):(setObj b o).run P w= .ok () (Z4c w b o):=by simp[setObj,Sem.run,h,Z4c]

theorem Y8o{kt et:TypeId}(hm:Y6h enk en w b m)(hk:Y2t kd enk)(ht:P.underlying t=some (.map kt et))(hu:P.underlying kt=some kd)(k:K)(u:V):
 ∃o,(Instr.mapUpdate t (.map (some b)) (enk k) (en u)).run P w= .ok () (Z4c w b o)/\Y6h enk en (Z4c w b o) b (Q8w m k u):=by
 obtain⟨es,clock,hg,he⟩:=hm;unfold Instr.mapUpdate
 simp only[Sem.run_bind,run_underlying ht,kT,Z4w hg,hk.chk P w kt false k hu]
 rcases Y1e hk k es.toList m 0 he with⟨a1,a2,a3⟩|⟨j,v,e',a1,a2,a3,a4,a5,a6,_⟩
 . refine⟨.map (es.push {key:=enk k,val:=en u,born:=clock}) (clock+1),?_,_,_,Y5w hg,?_⟩
   . simp[Z3j hu a2,Y6z hg]
   . rw[a3];simp[he]
 . have hkk:((es[j]?).map (·.key)).getD (enk k)=enk k:=by
    have:es[j]?=some e':=by simpa using a3
    rw[this];simpa using a4
   refine⟨.map (es.modify (0+j) fun e=>{e with key:=enk k,val:=en u}) clock,?_,_,_,Y5w hg,?_⟩
   . simp only[Z3j hu a2,kT]
     have hs:(Instr.keyThatStays (((es[0+j]?).map (·.key)).getD (enk k)) (enk k)).run P w= .ok (enk k) w:=by
      rw[Nat.zero_add,hkk]
      simp[Instr.keyThatStays,hk.bits]
     simp only[Sem.run_bind,hs,kT,Y6z hg]
   . rw[a6];apply List.ext_getElem?;intro q;have heq:∀q:Nat,(es.toList.map (fun e=>(e.key,e.val)))[q]?=(m.map (fun p=>(enk p.1,en p.2)))[q]?:=fun q=>by rw[he]
     have hq:=heq q
     simp only[List.getElem?_map,Array.getElem?_toList,Array.getElem?_modify,List.getElem?_set,Nat.zero_add]at hq⊢
     by_cases hjq:j=q
     . subst hjq;have:es[j]?=some e':=by simpa using a3
       simp[this,a5]
     . simp[hjq,hq]

theorem mu{kt et:TypeId}{k:K}{u:V}(hx:ev n J L x= .map (some b))(hy:ev n J L y=enk k)(hc:ev n J L c=en u)(hm:Y6h enk en w b m)(hk:Y2t kd enk)(ht:P.underlying t=some (.map kt et))(hu:P.underlying kt=some kd)(hT:¬T b)(hb:Bd T w)
 (k':∀w',Inn w.heap.size (·=b) T w T w'->Y6h enk en w' b (Q8w m k u)->KK (env n J L) w'):
 Oper.wp P ⟨none,.mapUpdate t x y c,ty,pos,aft,none⟩ (env n J L) w KK Q:=by
 obtain⟨o,hr,hm'⟩:=Y8o hm hk ht hu k u;exact X0b (by simp[execOp,hx,hy,hc,hr]) (k' _ ((Inn.refl hb (qD _)).ch1 (X7g w b o) fun k hk=>⟨hk▸hT,.inr hk⟩) hm')
end
def Nx{S R:Type}(bd:S->Option (Lp S R))(m:Nat)(z o:Lp S R):Prop:=match z with
 | .go s=>loopM bd m s=some o
 | .brk s=>o= .brk s
 | .ret r=>o= .ret r
theorem X4n{S R:Type}{bd:S->Option (Lp S R)}{n:Nat}{s:S}{o:Lp S R}(h:loopM bd n s=some o):∃m z,n=m+1/\bd s=some z/\Nx bd m z o:=by
 obtain⟨m,hm,h⟩:=X4o h
 rcases h with⟨s',h1,h2⟩|⟨s',h1,h2⟩|⟨r,h1,h2⟩
 . exact⟨m,_,hm,h1,h2⟩
 . exact⟨m,_,hm,h1,h2⟩
 . exact⟨m,_,hm,h1,h2⟩
section
variable{P:Program}{ops:Array Oper}{Q:Ac}{rest:Ah}{n:NF}{J:Nat->Value}{L:List (Nat×Value)}{w w' w0:World}
 {d:Nat} {ty:TypeId} {pos:String} {aft:Ag} {op:Op} {v:Value} {x y c:Operand} {t t2:TypeId} {T:TP} {KK:Act->World->Prop} {Qa:Act->Prop} {C:World->Prop} {K:Act->World->Prop}

theorem B0(M:List (Nat×Value))(h:Has n J L M)(k:∀J',K (env n J' M) w):Exit.then K Q .normal (env n J L) w:=by
 show K (env n J L) w;rw[X1d h];exact k _
theorem qcut(K:Act->Prop):∀(i:Nat){l:Ah}{a:Act},wpQuiet P ops C K (l.take i) a->(∀a,K a->wpQuiet P ops C Qa (l.drop i) a)->wpQuiet P ops C Qa l a
 |0,_,_,h,k=>k _ h
 |_+1,[],_,h,k=>k _ h
 |i+1,o::l,a,h,k=>by
  simp only[List.take_succ_cons,List.drop_succ_cons]at h k
  unfold wpQuiet at h⊢
  split
  . rename_i hw
    rw[if_pos hw]at h
    exact Oper.quiet_mono (fun a ha=>qcut K i ha k) h
  . rename_i hw
    rw[if_neg hw]at h
    exact qcut K i h k

theorem gF{j d0:Nat}{b b':Bool}(hd:(ops[j]?).bind (·.dst)=some d0)(hv:ev n J L (.tmp d0)= .bool b')(hb:b'=!b)(k:wpList P ops Q rest (env n J ((d,undef)::L)) w):
 wpList P ops Q (⟨some d,op,ty,pos,aft,some (j,b)⟩::rest) (env n J L) w:=
 gf (z:=some b') (by unfold yv;rw[hd];simp only[hv]) (by subst hb;cases b<;>rfl) k
theorem qgF{j d0:Nat}{b b':Bool}(hd:(ops[j]?).bind (·.dst)=some d0)(hv:ev n J L (.tmp d0)= .bool b')(hb:b'=!b)(k:wpQuiet P ops C Qa rest (env n J ((d,undef)::L))):
 wpQuiet P ops C Qa (⟨some d,op,ty,pos,aft,some (j,b)⟩::rest) (env n J L):=
 qgf (z:=some b') (by unfold yv;rw[hd];simp only[hv]) (by subst hb;cases b<;>rfl) k
theorem undB{e d0:Nat}{b:Bool}(hv:ev n J ((e,undef)::L) (.tmp d0)= .bool b):ev n J L (.tmp d0)= .bool b:=by
 simp only[ev]at hv⊢
 cases h:Nat.blt d0 n.n with
 |false=>rw[h]at hv;cases hv
 |true=>
  rw[h]at hv
  simp only[lk]at hv⊢
  split at hv
  . cases hv
  . exact hv
theorem gF2{j d0 e0 e1:Nat}{b b':Bool}{o0 o1:Op}{t0 t1:TypeId}{s0 s1:String}{a0 a1:Ag}(hd:(ops[j]?).bind (·.dst)=some d0)(hv:ev n J ((e0,undef)::L) (.tmp d0)= .bool b')(hb:b'=!b)(k:wpList P ops Q rest (env n J ((e1,undef)::(e0,undef)::L)) w):wpList P ops Q (⟨some e0,o0,t0,s0,a0,some (j,b)⟩::⟨some e1,o1,t1,s1,a1,some (j,b)⟩::rest) (env n J L) w:=
 gF hd (undB hv) hb (gF hd hv hb k)
theorem gF3{j d0 e0 e1 e2:Nat}{b b':Bool}{o0 o1 o2:Op}{t0 t1 t2:TypeId}{s0 s1 s2:String}{a0 a1 a2:Ag}(hd:(ops[j]?).bind (·.dst)=some d0)(hv:ev n J ((e1,undef)::(e0,undef)::L) (.tmp d0)= .bool b')(hb:b'=!b)(k:wpList P ops Q rest (env n J ((e2,undef)::(e1,undef)::(e0,undef)::L)) w):wpList P ops Q (⟨some e0,o0,t0,s0,a0,some (j,b)⟩::⟨some e1,o1,t1,s1,a1,some (j,b)⟩::⟨some e2,o2,t2,s2,a2,some (j,b)⟩::rest) (env n J L) w:=
 gF hd (undB (undB hv)) hb (gF2 hd hv hb k)
theorem gF4{j d0 e0 e1 e2 e3:Nat}{b b':Bool}{o0 o1 o2 o3:Op}{t0 t1 t2 t3:TypeId}{s0 s1 s2 s3:String}{a0 a1 a2 a3:Ag}(hd:(ops[j]?).bind (·.dst)=some d0)(hv:ev n J ((e2,undef)::(e1,undef)::(e0,undef)::L) (.tmp d0)= .bool b')(hb:b'=!b)(k:wpList P ops Q rest (env n J ((e3,undef)::(e2,undef)::(e1,undef)::(e0,undef)::L)) w):wpList P ops Q (⟨some e0,o0,t0,s0,a0,some (j,b)⟩::⟨some e1,o1,t1,s1,a1,some (j,b)⟩::⟨some e2,o2,t2,s2,a2,some (j,b)⟩::⟨some e3,o3,t3,s3,a3,some (j,b)⟩::rest) (env n J L) w:=
 gF hd (undB (undB (undB hv))) hb (gF3 hd hv hb k)
theorem gF5{j d0 e0 e1 e2 e3 e4:Nat}{b b':Bool}{o0 o1 o2 o3 o4:Op}{t0 t1 t2 t3 t4:TypeId}{s0 s1 s2 s3 s4:String}{a0 a1 a2 a3 a4:Ag}(hd:(ops[j]?).bind (·.dst)=some d0)(hv:ev n J ((e3,undef)::(e2,undef)::(e1,undef)::(e0,undef)::L) (.tmp d0)= .bool b')(hb:b'=!b)(k:wpList P ops Q rest (env n J ((e4,undef)::(e3,undef)::(e2,undef)::(e1,undef)::(e0,undef)::L)) w):wpList P ops Q (⟨some e0,o0,t0,s0,a0,some (j,b)⟩::⟨some e1,o1,t1,s1,a1,some (j,b)⟩::⟨some e2,o2,t2,s2,a2,some (j,b)⟩::⟨some e3,o3,t3,s3,a3,some (j,b)⟩::⟨some e4,o4,t4,s4,a4,some (j,b)⟩::rest) (env n J L) w:=
 gF hd (undB (undB (undB (undB hv)))) hb (gF4 hd hv hb k)
theorem gU{j d0:Nat}{b:Bool}(hd:(ops[j]?).bind (·.dst)=some d0)(hv:ev n J L (.tmp d0)=undef)(k:wpList P ops Q rest (env n J ((d,undef)::L)) w):
 wpList P ops Q (⟨some d,op,ty,pos,aft,some (j,b)⟩::rest) (env n J L) w:=
 gf (z:=none) (by unfold yv;rw[hd];simp only[hv,undef]) rfl k
theorem qgU{j d0:Nat}{b:Bool}(hd:(ops[j]?).bind (·.dst)=some d0)(hv:ev n J L (.tmp d0)=undef)(k:wpQuiet P ops C Qa rest (env n J ((d,undef)::L))):
 wpQuiet P ops C Qa (⟨some d,op,ty,pos,aft,some (j,b)⟩::rest) (env n J L):=
 qgf (z:=none) (by unfold yv;rw[hd];simp only[hv,undef]) rfl k
theorem wlR{b:Bool}{M:List (Nat×Value)}(h:∀J':Nat->Value,wpList P ops Q rest (env n J' ((d,.bool b)::M)) w)(hs:Has n J L ((d,.bool b)::M)):wpList P ops Q rest (env n J L) w:=by
 rw[X1d hs];exact h _
theorem gT{j d0:Nat}{b b':Bool}{dst:Option Nat}(hd:(ops[j]?).bind (·.dst)=some d0)(hv:ev n J L (.tmp d0)= .bool b')(hb:b'=b)(k:wpList P ops Q (⟨dst,op,ty,pos,aft,none⟩::rest) (env n J L) w):
 wpList P ops Q (⟨dst,op,ty,pos,aft,some (j,b)⟩::rest) (env n J L) w:=
 gt (by unfold yv;rw[hd];simp only[hv,hb]) k
theorem qgT{j d0:Nat}{b b':Bool}{dst:Option Nat}(hd:(ops[j]?).bind (·.dst)=some d0)(hv:ev n J L (.tmp d0)= .bool b')(hb:b'=b)(k:wpQuiet P ops C Qa (⟨dst,op,ty,pos,aft,none⟩::rest) (env n J L)):
 wpQuiet P ops C Qa (⟨dst,op,ty,pos,aft,some (j,b)⟩::rest) (env n J L):=
 qgt (by unfold yv;rw[hd];simp only[hv,hb]) k

theorem r_fd1{cs:Array Value}{fs:Array Field}{fd:Field}{f:Nat}{u:Value}(hx:ev n J L x= .agg cs)(ht:P.underlying t=some (.struct fs))(hf:fs[f]?=some fd)(hg:∀w,(isAgg fd.type).run P w= .ok false w)(hc:cs[fd.offset]?=some u):
 (execOp (ev n J L) ⟨some d,.field t x f,ty,pos,aft,none⟩).run P w= .ok (.value u) w:=by
 simp[execOp,Instr.field,run_underlying ht,hf,part,hg,hx,asAgg,hc]
theorem P3{parts:Array (Nat×Operand)}{cells:Array Value}{u:Value}(h:P.built t (parts.toList.map fun p=>(p.1,ev n J L p.2))=some cells)(hu:Value.agg cells=u):
 (execOp (ev n J L) ⟨some d,.build t parts,ty,pos,aft,none⟩).run P w= .ok (.value u) w:=by
 subst hu;have hp:(Array.map (fun p:Nat×Operand=>(p.1,ev n J L p.2)) parts).toList=parts.toList.map fun p=>(p.1,ev n J L p.2):=by simp
 have:=run_build (P:=P) w t (parts.map fun p=>(p.1,ev n J L p.2)) cells (by rw[hp];exact h)
 simp only[execOp,Sem.run_bind,this,kT,Sem.run_pure]
theorem bd{parts:Array (Nat×Operand)}{cells:Array Value}{u:Value}(h:P.built t (parts.toList.map fun p=>(p.1,ev n J L p.2))=some cells)(hu:Value.agg cells=u)
 (k':wpList P ops Q rest (env n J ((d,u)::L)) w):wpList P ops Q (⟨some d,.build t parts,ty,pos,aft,none⟩::rest) (env n J L) w:=by
 subst hu;refine Z6s ?_ k';have hp:(Array.map (fun p:Nat×Operand=>(p.1,ev n J L p.2)) parts).toList=parts.toList.map fun p=>(p.1,ev n J L p.2):=by simp
 have:=run_build (P:=P) w t (parts.map fun p=>(p.1,ev n J L p.2)) cells (by rw[hp];exact h)
 simp only[execOp,Sem.run_bind,this,kT,Sem.run_pure]
end

def Dj2(v1 v2:Value):Prop:=∀k,v2.ownBlock=some k->Dj v1 k
theorem Dj2.symm{v1 v2:Value}(h:Dj2 v1 v2):Dj2 v2 v1:=fun k hk j hj=>fun e=>h j hj k hk e.symm
theorem U0{α:Type}{r:Rp α}{T:TP}{w:World}:SlR r T w (.slice none 0 0) []:=⟨none,0,rfl,qD _,by simp[maxLen],.inl rfl⟩
theorem X2k{α:Type}{r:Rp α}{T:TP}{w:World}{cs:Ab}{l:List α}(h:(rSl r).rp T w cs l):∃a c,cs=[.slice a l.length c]/\SlR r T w (.slice a l.length c) l:=by
 obtain⟨v,rfl,h⟩:=h;obtain⟨a,c,rfl⟩:=h.shape;exact⟨a,c,rfl,h⟩
theorem cellsAt.sub{w:World}{b off:Nat}{cs ds:Ab}(h:cellsAt w b off cs)(o:Nat)(hs:(cs.drop o).take ds.length=ds):cellsAt w b (off+o) ds:=by
 intro j v hj;rw[Nat.add_assoc];refine h (o+j) v ?_;rw[<-List.getElem?_drop];rw[<-hs,List.getElem?_take]at hj
 split at hj
 . exact hj
 . cases hj
def Y2e{α:Type}(r:Rp α)(T:TP)(w:World):List (Ab)->List α->Prop
 |[],[]=>True
 |c::cs,x::xs=>r.rp T w c x/\Y2e r T w cs xs
 |_,_=>False
theorem Y2e.len{α:Type}{r:Rp α}{T:TP}{w:World}:∀{css:List (Ab)}{l:List α},Y2e r T w css l->css.length=l.length
 |[],[],_=>rfl
 |_::_,_::_,h=>by simp[Y2e.len h.2]
theorem Y2e.get{α:Type}{r:Rp α}{T:TP}{w:World}:∀{css:List (Ab)}{l:List α},Y2e r T w css l->∀(i:Nat)(cs:Ab)(x:α),css[i]?=some cs->l[i]?=some x->r.rp T w cs x
 |[],[],_,i,cs,x,h,_=>by simp at h
 |_::_,_::_,h,0,cs,x,hc,hx=>by simp at hc hx;subst hc;subst hx;exact h.1
 |_::_,_::_,h,i+1,cs,x,hc,hx=>by simp at hc hx;exact Y2e.get h.2 i cs x hc hx
def Y1f(s:Aa):Value:= .string ⟨s.toArray⟩
theorem Y9w(a b:Aa):((ByteArray.mk a.toArray==ByteArray.mk b.toArray):Bool)=decide (a=b):=by
 show(a.toArray==b.toArray)=decide (a=b);rw[Bool.eq_iff_iff]
 simp
theorem Z0r:Y2t .string Y1f where
 same:=fun a b=>by simp only[Y1f,Instr.sameNow,Y9w]
 bits:=fun a=>by
  have:∀n,Instr.sameBits n (Y1f a) (Y1f a)=true:=by intro n;cases n<;>simp[Instr.sameBits,Y1f,Y9w]
  exact this _
 chk:=fun P w kt em a h=>by
  have:∀n,(Instr.checkKey em (n+1) kt (Y1f a)).run P w= .ok () w:=by intro n;simp[Instr.checkKey,Y1f,run_underlying h]
  exact this 9999

section
variable{P:Program}{ops:Array Oper}{Q:Ac}{rest:Ah}{n:NF}{J:Nat->Value}{L:List (Nat×Value)}{w w' w0:World}
 {d:Nat} {ty:TypeId} {pos:String} {aft:Ag} {op:Op} {v:Value} {x y c:Operand} {t t2:TypeId} {T:TP} {KK:Act->World->Prop} {Qa:Act->Prop} {C:World->Prop}
 {K V:Type} [DecidableEq K] {kd:TypeDesc} {enk:K->Value} {en:V->Value} {b:Nat} {m:List (K×V)}
theorem bxv{v:Value}{cs:Ab}(hx:ev n J L x=v)(hc:v.cells.toList=cs)(hb:Bd T w)
 (k:∀w' b,Inn w.heap.size noB T w T w'->Box w' b cs->w.heap.size<=b->¬T b->KK (env n J ((d,.pointer (some ⟨b,0,none⟩))::L)) w'):
 Oper.wp P ⟨some d,.box t x,ty,pos,aft,none⟩ (env n J L) w KK Q:=by
 subst hc;refine Y2h (w':=w.alloc (.cells v.cells t)) (v:= .pointer (some ⟨w.heap.size,0,none⟩)) ?_ (k _ _ (Z2y hb _) ⟨t,?_⟩ (qD _) (Y0t hb))
 . simp only[execOp,Instr.box,newVar,hx,Sem.run_bind];rfl
 . rw[show(w.alloc (.cells v.cells t)).heap[w.heap.size]?=some (.cells v.cells t)from heap_alloc_new w _]
theorem ret0{m:Nat}{fn:Func}{R:Ending->World->Prop}(hr:fn.results=#[])(hR:R (.returned (.tuple #[])) w):bodyPost P fn R .ret (env (nf m) J L) w:=
 bodyPost_ret (results_none hr _ _ _) rfl hR
end
abbrev Im(T:TP)(w:World)(T':TP)(w':World):Prop:=∀k,T k->T' k/\w'.heap[k]?=w.heap[k]?
theorem Im.refl{T:TP}{w:World}:Im T w T w:=fun _ h=>⟨h,rfl⟩
theorem Im.trans{T T1 T2:TP}{w w1 w2:World}(h:Im T w T1 w1)(k:Im T1 w1 T2 w2):Im T w T2 w2:=fun b hb=>⟨(k b (h b hb).1).1,(k b (h b hb).1).2.trans (h b hb).2⟩

theorem iT{T T1 T2:TP}{w w1 w2:World}(h:Im T w T1 w1)(k:Im T1 w1 T2 w2):Im T w T2 w2:=h.trans k
theorem ch{T T':TP}{w w':World}(h:Im T w T' w':=by repeat(first|assumption|exact Im.refl|(apply Im.trans;assumption))):Im T w T' w':=h
structure X1 where
 P:(TP)->World->(TP)->Prop
 loc:∀{T T':TP}{w w':World}{F:TP},P T w F->(∀k,T k->T' k)->(∀k,T k\/F k->w'.heap[k]?=w.heap[k]?)->P T' w' F
 bnd:∀{T:TP}{w:World}{F:TP},P T w F->∀k,F k->k<w.heap.size

def empA:X1 where
 P:=fun _ _ F=>∀k,¬F k
 loc:=fun h _ _=>h
 bnd:=fun h k hk=>absurd hk (h k)

def atA:List X1->Nat->X1
 |[],_=>empA
 |A::_,0=>A
 |_::L,i+1=>atA L i
def A9:List X1->Nat->X1->List X1
 |[],_,_=>[]
 |_::L,0,B=>B::L
 |A::L,i+1,B=>A::A9 L i B
def Z6c(L:List X1):List Nat->List X1
 |[]=>[]
 |i::r=>atA L i::Z6c L r
def J8:List X1->Nat
 |[]=>0
 |_::L=>J8 L+1

def Fam(T:TP)(w:World)(L:List X1)(fs:Nat->Nat->Prop):Prop:=
 (∀i,i<J8 L->(atA L i).P T w (fs i))/\∀i j k,i<J8 L->j<J8 L->fs i k->fs j k->i=j

structure Sep(g:World)(T:TP)(w:World)(L:List X1):Prop where
 os:w.os=g.os
 tape:w.tape=g.tape
 output:w.output=g.output
 lt:∀k,T k->k<w.heap.size
 sep:∃fs,Fam T w L fs/\∀i k,i<J8 L->fs i k->¬T k

theorem H9(L:List X1)(i:Nat)(B:X1):J8 (A9 L i B)=J8 L:=by
 induction L generalizing i with
 |nil=>rfl
 |cons A L ih=>cases i with
  |zero=>rfl
  |succ i=>simp[A9,J8,ih]
theorem Z2j(L:List X1)(i j:Nat)(B:X1)(hi:i<J8 L):atA (A9 L i B) j=if j=i then B else atA L j:=by
 induction L generalizing i j with
 |nil=>simp[J8]at hi
 |cons A L ih=>cases i with
  |zero=>cases j with
   |zero=>rfl
   |succ j=>rfl
  |succ i=>cases j with
   |zero=>rfl
   |succ j=>
    simp only[A9,atA]
    rw[ih i j (by simpa[J8]using hi)]
    by_cases h:j=i
    . simp[h]
    . simp[h]
theorem Z2b(L:List X1)(ix:List Nat):J8 (Z6c L ix)=ix.length:=by
 induction ix with
 |nil=>rfl
 |cons i ix ih=>simp[Z6c,J8,ih]
theorem atA_sel(L:List X1)(ix:List Nat)(j:Nat)(hj:j<ix.length):atA (Z6c L ix) j=atA L ix[j]:=by
 induction ix generalizing j with
 |nil=>simp at hj
 |cons i ix ih=>cases j with
  |zero=>rfl
  |succ j=>simp only[Z6c,atA];rw[ih j (by simpa using hj)];simp
theorem Y1a(L M:List X1):J8 (L++M)=J8 L+J8 M:=by
 induction L with
 |nil=>simp[J8]
 |cons A L ih=>simp[J8,ih];omega
theorem X4x(L M:List X1)(j:Nat):atA (L++M) j=if j<J8 L then atA L j else atA M (j-J8 L):=by
 induction L generalizing j with
 |nil=>simp[J8]
 |cons A L ih=>cases j with
  |zero=>simp[J8,atA]
  |succ j=>
   simp only[jX,atA,ih,J8]
   by_cases h:j<J8 L
   . simp[h]
   . simp[h]

theorem Fam.move{T T':TP}{w w':World}{L:List X1}{fs:Nat->Nat->Prop}(h:Fam T w L fs)(hT:∀k,T k->T' k)(hs:∀k,(T k\/∃i,i<J8 L/\fs i k)->w'.heap[k]?=w.heap[k]?):Fam T' w' L fs:=
 ⟨fun i hi=>(atA L i).loc (h.1 i hi) hT (fun k hk=>hs k (hk.imp id fun hk=>⟨i,hi,hk⟩)),h.2⟩

def X0(L:List X1):X1 where
 P:=fun T w F=>∃fs,Fam T w L fs/\∀k,F k↔∃i,i<J8 L/\fs i k
 loc:=fun⟨fs,h,hf⟩ hT hs=>⟨fs,h.move hT (fun k hk=>hs k (hk.imp id fun hk=>(hf k).2 hk)),hf⟩
 bnd:=fun⟨fs,h,hf⟩ k hk=>let⟨i,hi,hk⟩:=(hf k).1 hk;(atA _ i).bnd (h.1 i hi) k hk

section
variable{g:World}{T T':TP}{w w':World}{L:List X1}{i:Nat}{A B:X1}

theorem X6t{ix:List Nat}(h:ix.Nodup){i j:Nat}(hi:i<ix.length)(hj:j<ix.length)(e:ix[i]=ix[j]):i=j:=by
 rcases Nat.lt_trichotomy i j with hl|hl|hl
 . have:=List.pairwise_iff_getElem.1 h i j hi hj hl;exact absurd e this
 . exact hl
 . have:=List.pairwise_iff_getElem.1 h j i hj hi hl;exact absurd e.symm this

def Y4i(n:Nat):List Nat->Bool
 |[]=>true
 |i::r=>Nat.blt i n&&r.all (fun j=>!Nat.beq i j)&&Y4i n r
theorem Y1q{n:Nat}:∀{ix:List Nat},Y4i n ix=true->∀i∈ix,i<n
 |[],_,i,hi=>by cases hi
 |a::r,h,i,hi=>by
  simp only[Y4i,qM]at h
  rcases qZ.1 hi with rfl|hi
  . exact kN h.1.1
  . exact Y1q h.2 i hi
theorem Z8d{n:Nat}:∀{ix:List Nat},Y4i n ix=true->ix.Nodup
 |[],_=>List.nodup_nil
 |a::r,h=>by
  simp only[Y4i,qM,List.all_eq_true]at h
  refine List.nodup_cons.2 ⟨fun hm=>?_,Z8d h.2⟩
  have:=h.1.2 a hm
  simp at this

theorem Fam.sel{fs:Nat->Nat->Prop}{ix:List Nat}(h:Fam T w L fs)(hi:∀i∈ix,i<J8 L)(hn:ix.Nodup):Fam T w (Z6c L ix) (fun j=>fs (ix.getD j 0)):=by
 refine⟨fun j hj=>?_,fun a b k ha hb h1 h2=>?_⟩
 . rw[Z2b]at hj;rw[atA_sel L ix j hj];have:=h.1 ix[j] (hi _ (jT hj))
   simpa[kP,hj]using this
 . rw[Z2b]at ha hb
   simp only[kP,ha,hb,kM,Option.getD_some]at h1 h2
   exact X6t hn ha hb (h.2 _ _ k (hi _ (jT ha)) (hi _ (jT hb)) h1 h2)

theorem Sep.sel(h:Sep g T w L)(ix:List Nat)(hx:Y4i (J8 L) ix=true):Sep g T w (Z6c L ix):=by
 obtain⟨h1,h2,h3,h4,fs,h5,h6⟩:=h;refine⟨h1,h2,h3,h4,_,h5.sel (Y1q hx) (Z8d hx),fun j k hj hk=>?_⟩;rw[Z2b]at hj
 simp only[kP,hj,kM,Option.getD_some]at hk
 exact h6 _ k (Y1q hx _ (jT hj)) hk

theorem Sep.bun(h:Sep g T w L)(rest ix:List Nat)(hx:Y4i (J8 L) (ix++rest)=true):Sep g T w (X0 (Z6c L rest)::Z6c L ix):=by
 obtain⟨h1,h2,h3,h4,fs,h5,h6⟩:=h;have hlt:=Y1q hx;have hnd:=Z8d hx;have n1:=(List.nodup_append.1 hnd).1;have n2:=(List.nodup_append.1 hnd).2.1;have n3:=(List.nodup_append.1 hnd).2.2;have f1:=h5.sel (ix:=rest) (fun i hi=>hlt i (by simp[hi])) n2;have f2:=h5.sel (ix:=ix) (fun i hi=>hlt i (by simp[hi])) n1;have g1:∀{jx:List Nat}{j:Nat},j<jx.length->jx.getD j 0∈jx:=fun{jx j} hj=>by simp[kP,hj]
 have hr:∀{j:Nat},j<rest.length->rest.getD j 0<J8 L:=fun hj=>hlt _ (jQ.2 (.inr (g1 hj)));have hx':∀{j:Nat},j<ix.length->ix.getD j 0<J8 L:=fun hj=>hlt _ (jQ.2 (.inl (g1 hj)));refine⟨h1,h2,h3,h4,fun j k=>match j with|0=>∃i,i<J8 (Z6c L rest)/\fs (rest.getD i 0) k|j+1=>fs (ix.getD j 0) k,⟨fun j hj=>?_,fun a b k ha hb x1 x2=>?_⟩,fun j k hj hk=>?_⟩
 . cases j with
   |zero=>exact⟨_,f1,fun k=>Iff.rfl⟩
   |succ j=>exact f2.1 j (by simpa[J8]using hj)
 . cases a with
   |zero=>cases b with
    |zero=>rfl
    |succ b=>
     exfalso
     obtain⟨i,hi,x1⟩:=x1;have hi':i<rest.length:=by simpa[Z2b]using hi
     have hb':b<ix.length:=by simpa[J8,Z2b]using hb
     have e:=h5.2 _ _ k (hr hi') (hx' hb') x1 x2;exact n3 _ (g1 hb') _ (g1 hi') e.symm
   |succ a=>cases b with
    |zero=>
     exfalso
     obtain⟨i,hi,x2⟩:=x2;have hi':i<rest.length:=by simpa[Z2b]using hi
     have ha':a<ix.length:=by simpa[J8,Z2b]using ha
     have e:=h5.2 _ _ k (hx' ha') (hr hi') x1 x2;exact n3 _ (g1 ha') _ (g1 hi') e
    |succ b=>rw[f2.2 a b k (by simpa[J8]using ha) (by simpa[J8]using hb) x1 x2]
 . cases j with
   |zero=>
    obtain⟨i,hi,hk⟩:=hk;have hi':i<rest.length:=by simpa[Z2b]using hi
    exact h6 _ k (hr hi') hk
   |succ j=>
    have hj':j<ix.length:=by simpa[J8,Z2b]using hj
    exact h6 _ k (hx' hj') hk
theorem Sep.unb{C M:List X1}(h:Sep g T w (X0 C::M)):Sep g T w (C++M):=by
 obtain⟨h1,h2,h3,h4,fs,h5,h6⟩:=h;obtain⟨gs,f1,f2⟩:=h5.1 0 (by simp[J8]);have hM:∀j,j<J8 M->j+1<J8 (X0 C::M):=fun j hj=>by simp[J8];omega
 have h0:0<J8 (X0 C::M):=by simp[J8]
 refine⟨h1,h2,h3,h4,fun j k=>if j<J8 C then gs j k else fs (j-J8 C+1) k,⟨fun j hj=>?_,fun a b k ha hb x1 x2=>?_⟩,fun j k hj hk=>?_⟩
 . rw[Y1a]at hj;rw[X4x]
   by_cases h:j<J8 C
   . simp only[h,if_true];exact f1.1 j h
   . simp only[h,if_false];exact h5.1 (j-J8 C+1) (hM _ (by omega))
 . rw[Y1a]at ha hb
   by_cases h:a<J8 C<;>by_cases h':b<J8 C<;>simp only[h,h',if_true,if_false]at x1 x2
   . exact f1.2 a b k h h' x1 x2
   . have e:=h5.2 0 (b-J8 C+1) k h0 (hM _ (by omega)) ((f2 k).2 ⟨a,h,x1⟩) x2;omega
   . have e:=h5.2 (a-J8 C+1) 0 k (hM _ (by omega)) h0 x1 ((f2 k).2 ⟨b,h',x2⟩);omega
   . have e:=h5.2 (a-J8 C+1) (b-J8 C+1) k (hM _ (by omega)) (hM _ (by omega)) x1 x2;omega
 . rw[Y1a]at hj
   by_cases h:j<J8 C<;>simp only[h,if_true,if_false]at hk
   . exact h6 0 k h0 ((f2 k).2 ⟨j,h,hk⟩)
   . exact h6 _ k (hM _ (by omega)) hk

theorem Sep.get(h:Sep g T w L)(i:Nat)(hi:Nat.blt i (J8 L)=true):∃F,(atA L i).P T w F/\∀k,F k->¬T k:=by
 obtain⟨h1,h2,h3,h4,fs,h5,h6⟩:=h;have hi':i<J8 L:=kN hi;exact⟨fs i,h5.1 i hi',fun k hk=>h6 i k hi' hk⟩

theorem Sep.keep{M:TP}(h:Sep g T w L)(i:Inn w.heap.size M T w T' w')(hM:∀k,¬M k):Sep g T' w' L:=by
 obtain⟨h1,h2,h3,h4,fs,h5,h6⟩:=h;have hb:∀i k,i<J8 L->fs i k->k<w.heap.size:=fun i k hi hk=>(atA L i).bnd (h5.1 i hi) k hk;refine⟨i.ch.os.trans h1,i.ch.tape.trans h2,i.ch.output.trans h3,i.lt,fs,h5.move (fun k hk=>(i.imm k hk).1) (fun k hk=>?_),fun j k hj hk ht=>h6 j k hj hk (i.bd k (hb j k hj hk) ht)⟩
 rcases hk with hk|⟨j,hj,hk⟩
 . exact(i.imm k hk).2
 . exact i.ch.same k (hb j k hj hk) (fun hh=>hh.elim (fun hh=>absurd (hb j k hj hk) (by omega)) (hM k))

theorem Sep.put{M:TP}(h:Sep g T w L)(i:Nat)(hi:Nat.blt i (J8 L)=true)(inn:Inn w.heap.size M T w T' w')
 (hx:∀F,(atA L i).P T w F->(∀k,F k->¬T k)->(∀k,M k->F k)/\∃F',B.P T' w' F'/\∀k,F' k->(F k\/w.heap.size<=k)/\¬T' k):Sep g T' w' (A9 L i B):=by
 obtain⟨h1,h2,h3,h4,fs,h5,h6⟩:=h;have hi':i<J8 L:=kN hi;have hb:∀i k,i<J8 L->fs i k->k<w.heap.size:=fun i k hi hk=>(atA L i).bnd (h5.1 i hi) k hk;obtain⟨hM,F',p1,p2⟩:=hx (fs i) (h5.1 i hi') (fun k hk=>h6 i k hi' hk)
 have hsame:∀j k,j<J8 L->j≠i->fs j k->w'.heap[k]?=w.heap[k]?:=fun j k hj hne hk=>
  inn.ch.same k (hb j k hj hk) (fun hh=>hh.elim (fun hh=>absurd (hb j k hj hk) (by omega)) (fun hm=>hne (h5.2 j i k hj hi' hk (hM k hm))))
 refine⟨inn.ch.os.trans h1,inn.ch.tape.trans h2,inn.ch.output.trans h3,inn.lt,fun j k=>if j=i then F' k else fs j k,⟨fun j hj=>?_,fun a b k ha hb' x1 x2=>?_⟩,fun j k hj hk=>?_⟩
 . rw[H9]at hj;rw[Z2j L i j B hi']
   by_cases e:j=i
   . simp only[e,if_true];exact p1
   . simp only[e,if_false]
     exact(atA L j).loc (h5.1 j hj) (fun k hk=>(inn.imm k hk).1) (fun k hk=>hk.elim (fun hk=>(inn.imm k hk).2) (hsame j k hj e))
 . rw[H9]at ha hb'
   by_cases ea:a=i<;>by_cases eb:b=i<;>simp only[ea,eb,if_true,if_false]at x1 x2
   . omega
   . rcases(p2 k x1).1 with hf|hf
     . exact absurd (h5.2 b i k hb' hi' x2 hf) eb
     . have:=hb b k hb' x2;omega
   . rcases(p2 k x2).1 with hf|hf
     . exact absurd (h5.2 a i k ha hi' x1 hf) ea
     . have:=hb a k ha x1;omega
   . exact h5.2 a b k ha hb' x1 x2
 . rw[H9]at hj
   by_cases e:j=i<;>simp only[e,if_true,if_false]at hk
   . exact(p2 k hk).2
   . exact fun ht=>h6 j k hj hk (inn.bd k (hb j k hj hk) ht)

theorem Sep.cons{M:TP}(h:Sep g T w L)(inn:Inn w.heap.size M T w T' w')(hM:∀k,¬M k){F:TP}(hB:B.P T' w' F)(hF:∀k,F k->w.heap.size<=k/\¬T' k):Sep g T' w' (B::L):=by
 have h':=h.keep inn hM;obtain⟨a1,a2,a3,a4,gs,a5,a6⟩:=h;obtain⟨h1,h2,h3,h4,fs,h5,h6⟩:=h';have hb:∀i k,i<J8 L->gs i k->k<w.heap.size:=fun i k hi hk=>(atA L i).bnd (a5.1 i hi) k hk
 have a5':Fam T' w' L gs:=a5.move (fun k hk=>(inn.imm k hk).1) (fun k hk=>by
  rcases hk with hk|⟨j,hj,hk⟩
  . exact(inn.imm k hk).2
  . exact inn.ch.same k (hb j k hj hk) (fun hh=>hh.elim (fun hh=>absurd (hb j k hj hk) (by omega)) (hM k)))
 refine⟨h1,h2,h3,h4,fun j k=>match j with|0=>F k|j+1=>gs j k,⟨fun j hj=>?_,fun a b k ha hb' x1 x2=>?_⟩,fun j k hj hk=>?_⟩
 . cases j with
   |zero=>exact hB
   |succ j=>exact a5'.1 j (by simpa[J8]using hj)
 . cases a with
   |zero=>cases b with
    |zero=>rfl
    |succ b=>have h1:=hb b k (by simpa[J8]using hb') x2;have h2:=(hF k x1).1;omega
   |succ a=>cases b with
    |zero=>have h1:=hb a k (by simpa[J8]using ha) x1;have h2:=(hF k x2).1;omega
    |succ b=>rw[a5'.2 a b k (by simpa[J8]using ha) (by simpa[J8]using hb') x1 x2]
 . cases j with
   |zero=>exact(hF k hk).2
   |succ j=>
    have hj':j<J8 L:=by simpa[J8]using hj
    exact fun ht=>a6 j k hj' hk (inn.bd k (hb j k hj' hk) ht)

theorem Sep.imp(h:Sep g T w L)(i:Nat)(hi:Nat.blt i (J8 L)=true)(hx:∀F,(atA L i).P T w F->B.P T w F):Sep g T w (A9 L i B):=
 h.put i hi (Inn.refl h.lt (qD _):Inn w.heap.size noB T w T w) fun F hF hn=>⟨fun k hk=>hk.elim,F,hx F hF,fun k hk=>⟨.inl hk,hn k hk⟩⟩
theorem Sep.freeze(h:Sep g T w L)(i:Nat)(hi:Nat.blt i (J8 L)=true)(S:TP)(hx:∀F,(atA L i).P T w F->∀k,S k->F k):Sep g (fun k=>T k\/S k) w (A9 L i empA):=by
 obtain⟨h1,h2,h3,h4,fs,h5,h6⟩:=h;have hi':i<J8 L:=kN hi;have hS:=hx (fs i) (h5.1 i hi');refine⟨h1,h2,h3,fun k hk=>hk.elim (h4 k) (fun hk=>(atA L i).bnd (h5.1 i hi') k (hS k hk)),fun j k=>if j=i then False else fs j k,⟨fun j hj=>?_,fun a b k ha hb' x1 x2=>?_⟩,fun j k hj hk=>?_⟩
 . rw[H9]at hj;rw[Z2j L i j _ hi']
   by_cases e:j=i
   . simp only[e,if_true];exact fun k hk=>hk
   . simp only[e,if_false]
     exact(atA L j).loc (h5.1 j hj) (fun k hk=> .inl hk) (fun k _=>rfl)
 . rw[H9]at ha hb'
   by_cases ea:a=i<;>by_cases eb:b=i<;>simp only[ea,eb,if_true,if_false]at x1 x2
   exact h5.2 a b k ha hb' x1 x2
 . rw[H9]at hj
   by_cases e:j=i<;>simp only[e,if_true,if_false]at hk
   exact fun ht=>ht.elim (h6 j k hj hk) (fun hs=>e (h5.2 j i k hj hi' hk (hS k hs)))
theorem Sep.two(h:Sep g T w L)(i j:Nat)(hi:Y4i (J8 L) [i,j]=true):Sep g T w (A9 (A9 L j empA) i (X0 [atA L i,atA L j])):=by
 obtain⟨h1,h2,h3,h4,fs,h5,h6⟩:=h;have hi':i<J8 L:=Y1q hi i (by simp);have hj':j<J8 L:=Y1q hi j (by simp)
 have hne:i≠j:=by
  have:=Z8d hi
  simp at this
  exact this
 refine⟨h1,h2,h3,h4,fun a k=>if a=i then fs i k\/fs j k else if a=j then False else fs a k,⟨fun a ha=>?_,fun a b k ha hb' x1 x2=>?_⟩,fun a k ha hk=>?_⟩
 . rw[H9,H9]at ha;rw[Z2j _ i a _ (by rw[H9];exact hi')]
   by_cases e:a=i
   . simp only[e,if_true]
     refine⟨fun b k=>if b=0 then fs i k else fs j k,⟨fun b hb=>?_,fun a b k ha hb x1 x2=>?_⟩,fun k=>⟨fun hk=>?_,fun⟨b,hb,hk⟩=>?_⟩⟩
     . match b,hb with
       |0,_=>exact h5.1 i hi'
       |1,_=>exact h5.1 j hj'
       |b+2,hb=>exact absurd (show b+2<2 from hb) (by omega)
     . match a,b,ha,hb with
       |0,0,_,_=>rfl
       |1,1,_,_=>rfl
       |0,1,_,_=>exact absurd (h5.2 i j k hi' hj' (by simpa using x1) (by simpa using x2)) hne
       |1,0,_,_=>exact absurd (h5.2 i j k hi' hj' (by simpa using x2) (by simpa using x1)) hne
       |a+2,_,ha,_=>exact absurd (show a+2<2 from ha) (by omega)
       |0,b+2,_,hb=>exact absurd (show b+2<2 from hb) (by omega)
       |1,b+2,_,hb=>exact absurd (show b+2<2 from hb) (by omega)
     . rcases hk with hk|hk
       . exact⟨0,by simp[J8],by simpa using hk⟩
       . exact⟨1,by simp[J8],by simpa using hk⟩
     . by_cases e0:b=0
       . simp only[e0,if_true]at hk;exact .inl hk
       . simp only[e0,if_false]at hk;exact .inr hk
   . simp only[e,if_false]
     rw[Z2j _ j a _ hj']
     by_cases e2:a=j
     . simp only[e2,if_true];exact fun k hk=>hk
     . simp only[e2,if_false];exact h5.1 a ha
 . rw[H9,H9]at ha hb'
   by_cases ea:a=i<;>by_cases eb:b=i<;>simp only[ea,eb,if_true,if_false]at x1 x2
   . omega
   . by_cases ej:b=j<;>simp only[ej,if_true,if_false]at x2
     rcases x1 with x1|x1
     . exact absurd (h5.2 _ _ k hi' hb' x1 x2) (fun h=>eb h.symm)
     . exact absurd (h5.2 _ _ k hj' hb' x1 x2) (fun h=>ej h.symm)
   . by_cases ej:a=j<;>simp only[ej,if_true,if_false]at x1
     rcases x2 with x2|x2
     . exact absurd (h5.2 _ _ k hi' ha x2 x1) (fun h=>ea h.symm)
     . exact absurd (h5.2 _ _ k hj' ha x2 x1) (fun h=>ej h.symm)
   . by_cases ej:a=j<;>by_cases ej':b=j<;>simp only[ej,ej',if_true,if_false]at x1 x2
     exact h5.2 a b k ha hb' x1 x2
 . rw[H9,H9]at ha
   by_cases ea:a=i<;>simp only[ea,if_true,if_false]at hk
   . exact hk.elim (h6 i k hi') (h6 j k hj')
   . by_cases ej:a=j<;>simp only[ej,if_true,if_false]at hk
     exact h6 a k ha hk
end
theorem ba_get(l:Aa)(i:Nat):(⟨l.toArray⟩:ByteArray)[i]?=l[i]?:=by
 by_cases h:i<l.length
 . rw[kM h,getElem?_pos (⟨l.toArray⟩:ByteArray) i (by simpa[ByteArray.size]using h)]
   rfl
 . rw[kU (by omega),getElem?_neg (⟨l.toArray⟩:ByteArray) i (by simpa[ByteArray.size]using h)]
theorem Z8p(l:Aa)(a b:Nat):(⟨l.toArray⟩:ByteArray).extract a b=⟨((l.take b).drop a).toArray⟩:=by
 apply ByteArray.ext
 simp[List.extract_eq_take_drop,List.drop_take]
theorem Y1t(l:Aa):(⟨l.toArray⟩:ByteArray).toList=l:=by
 rw[ByteArray.toList_eq]

section
variable{P:Program}{ops:Array Oper}{Q:Ac}{rest:Ah}{n:NF}{J:Nat->Value}{L:List (Nat×Value)}{w w' w0:World}
 {d:Nat} {ty:TypeId} {pos:String} {aft:Ag} {op:Op} {v:Value} {x y c:Operand} {t t2:TypeId} {T:TP} {Qa:Act->Prop} {C:World->Prop}

theorem r_sqL{a b:Aa}(hx:ev n J L x= .string ⟨a.toArray⟩)(hy:ev n J L y= .string ⟨b.toArray⟩):(execOp (ev n J L) ⟨some d,.binOp .eql t x y t2,ty,pos,aft,none⟩).run P w= .ok (.value (.bool (decide (a=b)))) w:=by
 rw[r_sq hx hy,Y1t,Y1t,Bool.beq_eq_decide_eq]
theorem r_snL{a b:Aa}(hx:ev n J L x= .string ⟨a.toArray⟩)(hy:ev n J L y= .string ⟨b.toArray⟩):(execOp (ev n J L) ⟨some d,.binOp .neq t x y t2,ty,pos,aft,none⟩).run P w= .ok (.value (.bool (!(decide (a=b))))) w:=by
 rw[r_sn hx hy,Y1t,Y1t,Bool.beq_eq_decide_eq]
theorem Z7q{a:Aa}{k:IntKind}{i:Int}{u:UInt8}(hx:ev n J L x= .string ⟨a.toArray⟩)(hy:ev n J L y= .int k i)(hi:idx a i=some u)(ht:P.underlying t=some .string):
 (execOp (ev n J L) ⟨some d,.index t x y,ty,pos,aft,none⟩).run P w= .ok (.value (.int .u8 (u.toNat:Int))) w:=by
 obtain⟨h0,h1,h2⟩:=Q2d hi
 simp[execOp,Instr.index,hx,hy,asIntOf,run_underlying ht,h0,ba_get,h2]
def oev(n:NF)(J:Nat->Value)(L:List (Nat×Value))(o:Option Operand)(z:Int)(a:Int):Prop:=match o with
 |some x=>∃k,ev n J L x= .int k a
 |none=>a=z

theorem r_ss{s r:Aa}{lo hi:Option Operand}{a b:Int}(hx:ev n J L x= .string ⟨s.toArray⟩)(hlo:oev n J L lo 0 a)(hhi:oev n J L hi s.length b)(hs:sub s a b=some r)(ht:P.underlying t=some .string):
 (execOp (ev n J L) ⟨some d,.slice t x lo hi none,ty,pos,aft,none⟩).run P w= .ok (.value (.string ⟨r.toArray⟩)) w:=by
 obtain⟨h0,h1,h2,rfl⟩:=Z1s hs;have hz:(⟨s.toArray⟩:ByteArray).size=s.length:=by simp[ByteArray.size]
 cases lo with
 |none=>
  cases hhi':hi with
  |none=>
   subst hhi';cases hlo;cases hhi
   simp[execOp,Instr.sliceAt,Instr.slice,Instr.sliceBounds,hx,run_underlying ht]
  |some y=>
   subst hhi';cases hlo;obtain⟨k,hk⟩:=hhi;have hb:0<=b:=by omega
   simp[execOp,Instr.sliceAt,Instr.slice,Instr.sliceBounds,Instr.sliceBound,asIntOf,hx,hk,run_underlying ht,hz,Z8p,hb,h2]
 |some z=>
  obtain⟨k1,hk1⟩:=hlo;cases hhi':hi with
  |none=>
   subst hhi';cases hhi
   simp[execOp,Instr.sliceAt,Instr.slice,Instr.sliceBounds,Instr.sliceBound,asIntOf,hx,hk1,run_underlying ht,hz,Z8p,h0,h1]
  |some y=>
   subst hhi';obtain⟨k,hk⟩:=hhi;have hb:0<=b:=by omega
   have hab:a<=(b.toNat:Int):=by omega
   simp[execOp,Instr.sliceAt,Instr.slice,Instr.sliceBounds,Instr.sliceBound,asIntOf,hx,hk,hk1,run_underlying ht,hz,Z8p,hb,h2,h0]
   intro hm;exact absurd hm (by omega)
theorem r_sl{ad:OA}{len cap sz:Nat}{e:TypeId}{lo hi:Option Operand}{a b:Int}(hx:ev n J L x= .slice ad len cap)(hlo:oev n J L lo 0 a)(hhi:oev n J L hi len b)(h0:0<=a)(h1:a<=b)(h2:b<=len)(hc:len<=cap)
 (ht:P.underlying t=some (.slice e)) (hs:∀w,(sizeOf e).run P w= .ok sz w):
 (execOp (ev n J L) ⟨some d,.slice t x lo hi none,ty,pos,aft,none⟩).run P w= .ok (.value (.slice (if cap=a.toNat then ad else ad.map (·.add (a.toNat*sz))) (b.toNat-a.toNat) (cap-a.toNat))) w:=by
 cases lo with
 |none=>
  cases hhi':hi with
  |none=>
   subst hhi';cases hlo;cases hhi
   simp[execOp,Instr.sliceAt,Instr.slice,Instr.sliceBounds,hx,run_underlying ht,hs]
  |some y=>
   subst hhi';cases hlo;obtain⟨k,hk⟩:=hhi;have hb:0<=b:=by omega
   have hb2:b<=cap:=by omega
   simp[execOp,Instr.sliceAt,Instr.slice,Instr.sliceBounds,Instr.sliceBound,asIntOf,hx,hk,run_underlying ht,hs,hb,hb2]
 |some z=>
  obtain⟨k1,hk1⟩:=hlo;cases hhi':hi with
  |none=>
   subst hhi';cases hhi
   simp[execOp,Instr.sliceAt,Instr.slice,Instr.sliceBounds,Instr.sliceBound,asIntOf,hx,hk1,run_underlying ht,hs,h0,h1]
  |some y=>
   subst hhi';obtain⟨k,hk⟩:=hhi;have hb:0<=b:=by omega
   have hb2:b<=cap:=by omega
   simp[execOp,Instr.sliceAt,Instr.slice,Instr.sliceBounds,Instr.sliceBound,asIntOf,hx,hk,hk1,run_underlying ht,hs,hb,hb2,h0]
   intro hm;exact absurd hm (by omega)
theorem SlR.part{α:Type}{r:Rp α}{w:World}{ad:OA}{l u:List α}{cap:Nat}{a b:Int}(h:SlR r T w (.slice ad l.length cap) l)(hs:sub l a b=some u):
 ∃a' c',Value.slice (if cap=a.toNat then ad else ad.map (·.add (a.toNat*r.sz))) (b.toNat-a.toNat) (cap-a.toNat)= .slice a' u.length c'/\SlR r T w (.slice a' u.length c') u:=by
 obtain⟨h0,h1,h2,rfl⟩:=Z1s hs;obtain⟨a0,c0,hv,h5,h6,h7⟩:=h;cases hv;have hl:((l.take b.toNat).drop a.toNat).length=b.toNat-a.toNat:=by simp;omega
 refine⟨_,cap-a.toNat,by rw[hl],_,_,rfl,by rw[hl];omega,by omega,?_⟩
 rcases h7 with h7|⟨bk,off,rfl,hT,hx⟩
 . exact .inl (by rw[h7];simp)
 . by_cases hca:cap=a.toNat
   . exact .inl (List.eq_nil_of_length_eq_zero (by rw[hl];omega))
   . refine .inr ⟨bk,off+a.toNat*r.sz,by rw[if_neg hca];simp[Addr.add_lit],hT,fun i x hi=>?_⟩;rw[List.getElem?_drop]at hi
     have hi2:l[a.toNat+i]?=some x:=by
      rw[List.getElem?_take]at hi
      split at hi
      . exact hi
      . cases hi
     obtain⟨cs,hr,hcs⟩:=hx _ x hi2;exact⟨cs,hr,by rw[show off+a.toNat*r.sz+i*r.sz=off+(a.toNat+i)*r.sz by rw[Nat.add_mul];omega];exact hcs⟩
theorem sl{α:Type}{r:Rp α}{ad:OA}{l u:List α}{cap sz:Nat}{e:TypeId}{lo hi:Option Operand}{a b:Int}(hx:ev n J L x= .slice ad l.length cap)(h:SlR r T w (.slice ad l.length cap) l)(hlo:oev n J L lo 0 a)(hhi:oev n J L hi l.length b)(hs:sub l a b=some u)
 (ht:P.underlying t=some (.slice e)) (hz:∀w,(sizeOf e).run P w= .ok sz w) (hr:r.sz=sz)
 (k':∀a' c',SlR r T w (.slice a' u.length c') u->wpList P ops Q rest (env n J ((d,.slice a' u.length c')::L)) w):
 wpList P ops Q (⟨some d,.slice t x lo hi none,ty,pos,aft,none⟩::rest) (env n J L) w:=by
 subst hr;obtain⟨h0,h1,h2,_⟩:=Z1s hs;obtain⟨a',c',e1,h'⟩:=h.part hs
 have hc:l.length<=cap:=by
  obtain⟨_,_,hv,h5,_⟩:=h;cases hv;exact h5
 have hr:=r_sl (w:=w) (P:=P) (d:=d) (ty:=ty) (pos:=pos) (aft:=aft) hx hlo hhi h0 h1 h2 hc ht hz;rw[e1]at hr;exact Z6s hr (k' a' c' h')
theorem r_nc{a:Addr}(hx:ev n J L x= .pointer (some a)):(execOp (ev n J L) ⟨some d,.nilCheck x,ty,pos,aft,none⟩).run P w= .ok (.value (.pointer (some a))) w:=by
 simp[execOp,hx]
theorem r_imx{k:IntKind}{a b:Int}(hx:ev n J L x= .int k a)(hy:ev n J L y= .int k b):(execOp (ev n J L) ⟨some d,.call ⟨.builtin .max,#[x,y],#[t,t2]⟩,ty,pos,aft,none⟩).run P w= .ok (.value (.int k (max a b))) w:=by
 simp[execOp,resolve,invoke,builtin,Builtin.max_,Builtin.max2,hx,hy]
 split<;>omega
theorem r_ex{vs:Array Value}{i:Nat}{v:Value}(hx:ev n J L x= .tuple vs)(hi:vs[i]?=some v):(execOp (ev n J L) ⟨some d,.extract x i,ty,pos,aft,none⟩).run P w= .ok (.value (v)) w:=by
 simp[execOp,Instr.extract,hx,hi]
theorem ex{vs:Array Value}{i:Nat}{v:Value}(hx:ev n J L x= .tuple vs)(hi:vs[i]?=some v)(k':wpList P ops Q rest (env n J ((d,v)::L)) w):wpList P ops Q (⟨some d,.extract x i,ty,pos,aft,none⟩::rest) (env n J L) w:=Z6s (r_ex hx hi) k'
end
inductive Pre(l:Ah):Nat->Nat->Prop where
 |base {j:Nat} {o:Oper} {e:Edge} (h:l[j]?=some o) (he:e∈o.after) (hb:Region.binds .any e=true):Pre l e.on j
 |step {j r:Nat} {o:Oper} {e:Edge} (h:l[j]?=some o) (he:e∈o.after) (hb:Region.binds .any e=true) (hr:Pre l r e.on):Pre l r j

def ancM(acc:List Nat)(m:Nat)(e:Edge):Nat:=if Region.binds .any e then m|||(2^e.on)|||acc.getD e.on 0 else m
def Y8n(acc:List Nat)(o:Oper):List Nat:=acc++[o.after.toList.foldl (ancM acc) 0]
def Q9w(l:Ah):List Nat:=l.foldl Y8n []

theorem ancM_ok{l:Ah}{acc:List Nat}{j:Nat}{o:Oper}(ho:l[j]?=some o)(hacc:∀i r,(acc.getD i 0).testBit r=true->Pre l r i):
 ∀(es:List Edge)(m:Nat),(∀e∈es,e∈o.after)->(∀r,m.testBit r=true->Pre l r j)->∀r,(es.foldl (ancM acc) m).testBit r=true->Pre l r j:=by
 intro es
 induction es with
 |nil=>intro m _ hm;exact hm
 |cons e es ih=>
  intro m he hm;refine ih _ (fun e' h'=>he e' (by simp[h'])) fun r hr=>?_;unfold ancM at hr
  split at hr
  . rename_i hb
    rw[Nat.testBit_or,Nat.testBit_or,Nat.testBit_two_pow]at hr
    simp only[qH,decide_eq_true_eq]at hr
    rcases hr with(hr|hr)|hr
    . exact hm r hr
    . exact hr▸ .base ho (he e (by simp)) hb
    . exact .step ho (he e (by simp)) hb (hacc _ _ hr)
  . exact hm r hr

theorem Z5y(l:Ah):∀j r,((Q9w l).getD j 0).testBit r=true->Pre l r j:=by
 have key:∀(l2 l1:Ah)(acc:List Nat),l=l1++l2->acc.length=l1.length->(∀i r,(acc.getD i 0).testBit r=true->Pre l r i)->
  ∀i r,((l2.foldl Y8n acc).getD i 0).testBit r=true->Pre l r i:=by
  intro l2
  induction l2 with
  |nil=>intro l1 acc _ _ h;exact h
  |cons o l2 ih=>
   intro l1 acc hl hlen h;refine ih (l1++[o]) (Y8n acc o) (by simp[hl]) (by simp[Y8n,hlen]) fun i r hr=>?_;have ho:l[acc.length]?=some o:=by rw[hl,hlen];simp
   unfold Y8n at hr
   rcases Nat.lt_trichotomy i acc.length with hi|hi|hi
   . rw[kP,kR hi,<-kP]at hr;exact h i r hr
   . subst hi;rw[kP,kS (qD _)]at hr
     simp at hr
     exact ancM_ok ho h o.after.toList 0 (fun e he=>by simpa using he) (fun r hr=>by simp at hr) r (by simpa using hr)
   . rw[kP,kU (by simp;omega)]at hr
     simp at hr
 exact key l [] [] rfl rfl (fun i r h=>by simp at h)

section
variable{P:Program}{l:Ah}{Q:Ac}{fl:List Nat}

def Q2m(l:Ah)(i:Nat):Option Tmp:=(l[i]?).bind (·.dst)
def Z0y(l:Ah)(a:Act)(p:Nat×Value):Act:=a.put (Q2m l p.1) p.2
def Q0y(l:Ah)(D:List (Nat×Value))(a:Act):Act:=D.foldl (Z0y l) a
def Q7z(l:Ah)(o:Oper)(a:Act):Bool:=Region.wanted o (yielded l.toArray a.tmps)

def Z2k(P:Program)(l:Ah)(pd:List (Nat×Value))(a:Act)(w:World):Prop:=∀p∈pd,∀o,l[p.1]?=some o->(execOp a.eval o).run P w= .ok (.value p.2) w

def H8(P:Program)(l:Ah)(fl:List Nat)(Q:Ac):List (Nat×Value)->List Nat->Act->World->Prop
 |_,[],a,w=>Q .normal a w
 |pd,i::is,a,w=>∃o,l[i]?=some o/\match Q7z l o a with
  |true=>match fl.getD i 2 with
   |0=>∃v,(∀w,(execOp a.eval o).run P w= .ok (.value v) w)/\H8 P l fl Q pd is (a.put o.dst v) w
   |1=>∃v,(execOp a.eval o).run P w= .ok (.value v) w/\H8 P l fl Q ((i,v)::pd) is (a.put o.dst v) w
   |_=>o.wpIn Fence.wide 0 P a w (fun a' w'=>Z2k P l (pd.filter fun p=>!((Q9w l).getD i 0).testBit p.1) a' w'/\H8 P l fl Q (pd.filter fun p=>!((Q9w l).getD i 0).testBit p.1) is a' w') Q
  |false=>H8 P l fl Q pd is (a.put o.dst undef) w

def nzB(fl:List Nat)(x:Nat):Bool:=match fl.getD x 2 with
 |0=>false
 |1=>false
 |_=>true
def pairB(l:Ah)(an:List Nat)(x y:Nat):Bool:=!Nat.beq x y&&match l[x]?,l[y]?with
 |some ox,some oy=>ox.after.all (fun e=>!Region.binds .any e||!Nat.beq e.on y)&&((an.getD y 0).testBit x||ox.apart l.toArray oy)
 |_,_=>false
def clobB(l:Ah)(x y:Nat):Bool:=match l[x]?,l[y]?with
 |some ox,some oy=>match oy.dst with
  |some d=>(ox.looksAt l.toArray).contains d
  |none=>false
 |_,_=>true
def selfB(l:Ah)(x:Nat):Bool:=match l[x]?with
 |some ox=>ox.after.all fun e=>!Region.binds .any e||!Nat.beq e.on x
 |none=>false
def X0q(l:Ah)(fl an:List Nat):List Nat->Bool
 |[]=>true
 |x::r=>r.all (fun y=>pairB l an x y&&(!nzB fl x||(an.getD y 0).testBit x))&&
  ((!clobB l x x&&r.all (fun y=>!clobB l x y))||!Nat.beq (fl.getD x 2) 1||r.all (fun z=>!nzB fl z||(an.getD z 0).testBit x))&&selfB l x&&X0q l fl an r
def Y6q(l:Ah):Bool:=l.all fun o=>o.after.all fun e=>!Region.binds .any e||Nat.blt e.on l.length
def serB(l:Ah)(fl:List Nat)(ord:List Nat):Bool:=
 Nat.beq ord.length l.length&&ord.all (fun i=>Nat.blt i l.length)&&(qT l.length).all (fun i=>ord.contains i)&&Region.noSelect l.toArray&&Y6q l&&X0q l fl (Q9w l) ord

structure X3s(l:Ah)(fl:List Nat)(x y:Nat):Prop where
 ne:x≠y
 no:∀o,l[x]?=some o->∀e∈o.after,Region.binds .any e=true->e.on≠y
 ap:Pre l x y\/∀ox oy,l[x]?=some ox->l[y]?=some oy->ox.apart l.toArray oy=true
 nz:nzB fl x=true->Pre l x y

def Good(l:Ah)(fl:List Nat):List Nat->Prop
 |[]=>True
 |x::r=>(∀y∈r,X3s l fl x y)/\(fl.getD x 2=1->(∀y∈x::r,clobB l x y=false)\/(∀z∈r,nzB fl z=true->Pre l x z))/\(∀o,l[x]?=some o->∀e∈o.after,Region.binds .any e=true->e.on≠x)/\Good l fl r

theorem good_of:∀(ord:List Nat),X0q l fl (Q9w l) ord=true->Good l fl ord:=by
 intro ord
 induction ord with
 |nil=>exact fun _=>trivial
 |cons x r ih=>
  intro h
  simp only[X0q,qM,qH,List.all_eq_true,Bool.not_eq_true']at h
  obtain⟨⟨⟨h1,h2⟩,h4⟩,h3⟩:=h;refine⟨fun y hy=>?_,fun h1l=>?_,?_,ih h3⟩
  . obtain⟨ha,hb⟩:=h1 y hy;unfold pairB at ha
    simp only[qM,Bool.not_eq_true']at ha
    obtain⟨hne,hm⟩:=ha
    split at hm
    . rename_i ox oy hx hy'
      simp only[qM,qH]at hm
      obtain⟨hm1,hm2⟩:=hm;refine⟨fun e=>by subst e;simp at hne,fun o ho e he hb'=>?_,?_,fun hn=>?_⟩
      . rw[hx]at ho;cases ho;rw[Array.all_eq_true_iff_forall_mem]at hm1;have:=hm1 e he;rw[hb']at this;intro hh;rw[hh]at this
        simp at this
      . rcases hm2 with hm2|hm2
        . exact .inl (Z5y l _ _ hm2)
        . refine .inr fun ox' oy' hx' hy2=>?_;rw[hx]at hx';rw[hy']at hy2;cases hx';cases hy2;exact hm2
      . rcases hb with hb|hb
        . rw[hb]at hn;cases hn
        . exact Z5y l _ _ hb
    . cases hm
  . rcases h2 with(h2|h2)|h2
    . refine .inl fun y hy=>?_
      rcases qZ.1 hy with rfl|hy
      . exact h2.1
      . exact h2.2 y hy
    . rw[h1l]at h2;cases h2
    . refine .inr fun z hz hn=>?_
      rcases h2 z hz with h|h
      . rw[h]at hn;cases hn
      . exact Z5y l _ _ h
  . intro o ho e he hb hh;unfold selfB at h4;rw[ho]at h4
    simp only at h4
    rw[Array.all_eq_true_iff_forall_mem]at h4;have:=h4 e he;rw[hb,hh]at this
    simp at this
theorem Good.sub{s ord:List Nat}(hs:s.Sublist ord)(h:Good l fl ord):Good l fl s:=by
 induction hs with
 |slnil=>trivial
 |cons a _ ih=>exact ih h.2.2.2
 |cons_cons a hs ih=>
  refine⟨fun y hy=>h.1 y (hs.subset hy),fun h1=>?_,h.2.2.1,ih h.2.2.2⟩
  rcases h.2.1 h1 with h2|h2
  . exact .inl fun y hy=>h2 y (by
     rcases qZ.1 hy with rfl|hy
     . simp
     . exact List.mem_cons_of_mem _ (hs.subset hy))
  . exact .inr fun y hy=>h2 y (hs.subset hy)
theorem Good.pair{A B:List Nat}{x:Nat}(h:Good l fl (A++x::B)):(∀y∈A,X3s l fl y x)/\(∀y∈B,X3s l fl x y):=by
 induction A with
 |nil=>exact⟨fun y hy=>by simp at hy,h.1⟩
 |cons a A ih=>
  have:=ih h.2.2.2
  exact⟨fun y hy=>by
   rcases qZ.1 hy with rfl|hy
   . exact h.1 x (by simp)
   . exact this.1 y hy,this.2⟩

/-! ### Soundness -/
theorem Z4p{D:List (Nat×Value)}{o:Oper}(hs:∀cs b,o.op≠ .select cs b)(h:∀p∈D,∀d,Q2m l p.1=some d->d∉o.looksAt l.toArray)(a:Act):
 execOp (Q0y l D a).eval o=execOp a.eval o/\Q7z l o (Q0y l D a)=Q7z l o a:=by
 induction D generalizing a with
 |nil=>exact⟨rfl,rfl⟩
 |cons p D ih=>
  have h1:=ih (fun q hq=>h q (by simp[hq])) (Z0y l a p);have h2:=h p (by simp);refine⟨h1.1.trans (execOp_put (ops:=l.toArray) o hs a _ _ h2),h1.2.trans (wanted_put (ops:=l.toArray) o a _ _ h2)⟩
theorem Y0n{D:List (Nat×Value)}{d:Option Tmp}(h:∀p∈D,∀e,Q2m l p.1=some e->d≠some e)(a:Act)(u:Value):Q0y l D (a.put d u)=(Q0y l D a).put d u:=by
 induction D generalizing a with
 |nil=>rfl
 |cons p D ih=>
  show Q0y l D (Z0y l (a.put d u) p)=_;have:Z0y l (a.put d u) p=(Z0y l a p).put d u:=Act.put_comm a u p.2 (fun e he=>fun hh=>h p (by simp) e hh he);rw[this,ih (fun q hq=>h q (by simp[hq]))]
  rfl
theorem Y5t{D:List (Nat×Value)}(a:Act)(ds:List Deferred):Q0y l D {a with defers:=ds}={Q0y l D a with defers:=ds}/\(Q0y l D a).defers=a.defers:=by
 induction D generalizing a with
 |nil=>exact⟨rfl,rfl⟩
 |cons p D ih=>
  have h1:=ih (Z0y l a p);have e:Z0y l {a with defers:=ds} p={Z0y l a p with defers:=ds}:=by unfold Z0y;cases Q2m l p.1<;>rfl
  refine⟨?_,h1.2.trans ?_⟩
  . show Q0y l D (Z0y l {a with defers:=ds} p)=_;rw[e,h1.1]
    rfl
  . unfold Z0y;cases Q2m l p.1<;>rfl

theorem wp_in{P:Program}{Q:Ac}{o:Oper}{m:Nat}{K:Act->World->Prop}{a:Act}{w:World}(h:o.wp P a w K Q):o.wpIn Fence.wide m P a w K Q:=by
 refine⟨fun _ _=>trivial,?_⟩;show o.uponIn _ _ _ _ _ _ ((o.semAt none a.eval).run P w);rw[Oper.semAt_none];unfold Oper.wp at h
 revert h
 generalize(execOp a.eval o).run P w=r
 intro h;cases r with
 |ok nx w1=>
  cases nx<;>simp only[Oper.upon]at h
  case value u=>exact h
  case skip=>exact h
  case defer u=>exact h
  case enter f args=>
   refine⟨fun h=>(by cases h),callsIn_wide.2 (h.mono ?_)⟩;intro e w2 he;cases e<;>exact he
  case row rw args=>
   refine⟨fun h=>(by cases h),fun c cs _=>?_⟩;obtain⟨v,w',hv,hs⟩:=h c cs;exact⟨v,w',hv,stepsIn_wide.2 hs⟩
 |halt hh w1=>
  cases hh<;>simp only[Oper.upon]at h
  exact h

theorem X1v{D:List (Nat×Value)}{r:Oper}(hs:∀cs b,r.op≠ .select cs b)(h1:∀p∈D,∀d,Q2m l p.1=some d->d∉r.looksAt l.toArray)(h2:∀p∈D,∀d,Q2m l p.1=some d->r.dst≠some d)
 (hQ:∀c a i v w,Q (.panic c) (Act.put a (Q2m l i) v) w->Q (.panic c) a w) {K:Act->World->Prop} {a:Act} {w:World} (h:r.wpIn Fence.wide 0 P (Q0y l D a) w K Q):
 r.wpIn Fence.wide 0 P a w (fun a' w'=>(∃u ds,a'=({a with defers:=ds}:Act).put r.dst u)/\K (Q0y l D a') w') Q:=by
 have hQD:∀c (D:List (Nat×Value)) a w,Q (.panic c) (Q0y l D a) w->Q (.panic c) a w:=by
  intro c D
  induction D with
  |nil=>exact fun a w h=>h
  |cons p D ih=>exact fun a w h=>hQ c a _ _ w (ih _ w h)
 unfold Oper.wpIn at*;refine⟨fun _ _=>trivial,?_⟩;have h:=h.2
 change r.uponIn _ _ _ _ _ _ ((r.semAt none (Q0y l D a).eval).run P w)at h
 change r.uponIn _ _ _ _ _ _ ((r.semAt none a.eval).run P w)
 rw[Oper.semAt_none]at h⊢;rw[(Z4p hs h1 a).1]at h
 generalize(execOp a.eval r).run P w=x at*
 have hp:∀u,Q0y l D (a.put r.dst u)=(Q0y l D a).put r.dst u:=fun u=>Y0n (fun p hp e he=>h2 p hp e he) a u;cases x with
 |ok n w'=>
  cases n<;>simp only[Oper.uponIn]at h⊢
  case value u=>exact⟨⟨u,a.defers,rfl⟩,by rw[hp];exact h⟩
  case skip=>exact⟨⟨undef,a.defers,rfl⟩,by rw[hp];exact h⟩
  case defer d=>
   refine⟨⟨undef,_,rfl⟩,?_⟩;have e1:=Y0n (D:=D) (d:=r.dst) (fun p hp e he=>h2 p hp e he) ({a with defers:=d::a.defers}:Act) undef;rw[e1,(Y5t a _).1];rw[(Y5t (l:=l) (D:=D) a []).2]at h;exact h
  case enter f args=>
   refine⟨h.1,CallsIn.mono h.2 fun e w'' he=>?_⟩;cases e with
   |returned u=>exact⟨⟨u,a.defers,rfl⟩,by rw[hp];exact he⟩
   |panicked c=>exact hQD _ _ _ _ he
   |outgrown=>exact he
  case row row args=>exact⟨h.1,RowsIn.mono h.2 fun u w'' he=>⟨⟨u,a.defers,rfl⟩,by rw[hp];exact he⟩⟩
  case round l f tmps assign body=>
   refine⟨h.1,RoundIn.mono h.2 fun e w'' he=>?_⟩;cases e with
   |returned u=>exact⟨⟨u,a.defers,rfl⟩,by rw[hp];exact he⟩
   |panicked c=>exact hQD _ _ _ _ he
   |outgrown=>exact he
 |halt x w'=>
  cases x<;>simp only[Oper.uponIn]at h⊢
  case panic u=>exact hQD _ _ _ _ h

def Yl(P:Program)(l:Ah)(fl:List Nat)(pd:List (Nat×Value))(p:Nat×Value)(a:Act)(w:World):Prop:=∃o,l[p.1]?=some o/\
 ((Q7z l o a=false/\p.2=undef)\/(Q7z l o a=true/\(execOp a.eval o).run P w= .ok (.value p.2) w/\((fl.getD p.1 2=0/\∀w,(execOp a.eval o).run P w= .ok (.value p.2) w)\/(fl.getD p.1 2=1/\p∈pd))))
def Z2l(P:Program)(l:Ah)(fl:List Nat)(pd:List (Nat×Value)):List (Nat×Value)->Act->World->Prop
 |[],_,_=>True
 |p::D,a,w=>Yl P l fl pd p a w/\Z2l P l fl pd D (Z0y l a p) w

theorem Yl.more{pd pd':List (Nat×Value)}{p:Nat×Value}{a:Act}{w:World}(h:Yl P l fl pd p a w)(hs:∀q∈pd,q∈pd'):Yl P l fl pd' p a w:=by
 obtain⟨o,ho,h|⟨h1,h2,h3|⟨h4,h5⟩⟩⟩:=h
 . exact⟨o,ho,.inl h⟩
 . exact⟨o,ho,.inr ⟨h1,h2,.inl h3⟩⟩
 . exact⟨o,ho,.inr ⟨h1,h2,.inr ⟨h4,hs _ h5⟩⟩⟩
theorem Z2l.more{pd pd' D:List (Nat×Value)}{a:Act}{w:World}(h:Z2l P l fl pd D a w)(hs:∀q∈pd,q∈pd'):Z2l P l fl pd' D a w:=by
 induction D generalizing a with
 |nil=>trivial
 |cons q D ih=>exact⟨h.1.more hs,ih h.2⟩
theorem Z2l.snoc{pd D:List (Nat×Value)}{p:Nat×Value}{a:Act}{w:World}(h:Z2l P l fl pd D a w)(hy:Yl P l fl pd p (Q0y l D a) w):Z2l P l fl pd (D++[p]) a w:=by
 induction D generalizing a with
 |nil=>exact⟨hy,trivial⟩
 |cons q D ih=>exact⟨h.1,ih h.2 hy⟩
theorem Z4l{D:List (Nat×Value)}{p:Nat×Value}{a:Act}:Q0y l (D++[p]) a=Z0y l (Q0y l D a) p:=by simp[Q0y]

theorem absorb:∀(R:List Nat)(D pd:List (Nat×Value))(a:Act)(w:World),Z2l P l fl pd D a w->H8 P l fl Q pd R (Q0y l D a) w->
 ∃D' pd' R',D.map (·.1)++R=D'.map (·.1)++R'/\Z2l P l fl pd' D' a w/\H8 P l fl Q pd' R' (Q0y l D' a) w/\
  (R'=[]\/∃r R'' o,R'=r::R''/\l[r]?=some o/\Q7z l o (Q0y l D' a)=true/\nzB fl r=true):=by
 intro R
 induction R with
 |nil=>exact fun D pd a w h1 h2=>⟨D,pd,[],rfl,h1,h2,.inl rfl⟩
 |cons i R ih=>
  intro D pd a w h1 h2;have h2':=h2;unfold H8 at h2;obtain⟨o,ho,h⟩:=h2;have hd:∀v,Z0y l (Q0y l D a) (i,v)=(Q0y l D a).put o.dst v:=fun v=>by simp[Z0y,Q2m,ho]
  cases hw:Q7z l o (Q0y l D a)with
  |false=>
   rw[hw]at h;have h1':=h1.snoc (p:=(i,undef)) ⟨o,ho,.inl ⟨hw,rfl⟩⟩;have:=ih (D++[(i,undef)]) pd a w h1' (by rw[Z4l,hd];exact h)
   simpa using this
  |true=>
   rw[hw]at h
   by_cases h0:fl.getD i 2=0
   . rw[h0]at h;obtain⟨v,hv,hk⟩:=h;have h1':=h1.snoc (p:=(i,v)) ⟨o,ho,.inr ⟨hw,hv w,.inl ⟨h0,hv⟩⟩⟩;have:=ih (D++[(i,v)]) pd a w h1' (by rw[Z4l,hd];exact hk)
     simpa using this
   . by_cases h10:fl.getD i 2=1
     . rw[h10]at h;obtain⟨v,hv,hk⟩:=h;have h1':=(h1.more (pd':=(i,v)::pd) (fun q hq=>by simp[hq])).snoc (p:=(i,v)) ⟨o,ho,.inr ⟨hw,hv,.inr ⟨h10,by simp⟩⟩⟩;have:=ih (D++[(i,v)]) ((i,v)::pd) a w h1' (by rw[Z4l,hd];exact hk)
       simpa using this
     . refine⟨D,pd,i::R,rfl,h1,h2',.inr ⟨i,R,o,rfl,ho,hw,?_⟩⟩;unfold nzB
       split
       . rename_i h;exact absurd h h0
       . rename_i h;exact absurd h h10
       . rfl

theorem Z2l.append{pd D1 D2:List (Nat×Value)}{a:Act}{w:World}(h1:Z2l P l fl pd D1 a w)(h2:Z2l P l fl pd D2 (Q0y l D1 a) w):Z2l P l fl pd (D1++D2) a w:=by
 induction D1 generalizing a with
 |nil=>exact h2
 |cons q D ih=>exact⟨h1.1,ih h1.2 h2⟩
theorem Z2l.split{pd D1 D2:List (Nat×Value)}{a:Act}{w:World}(h:Z2l P l fl pd (D1++D2) a w):Z2l P l fl pd D1 a w/\Z2l P l fl pd D2 (Q0y l D1 a) w:=by
 induction D1 generalizing a with
 |nil=>exact⟨trivial,h⟩
 |cons q D ih=>exact⟨⟨h.1,(ih h.2).1⟩,(ih h.2).2⟩
theorem Z2l.put{pd D:List (Nat×Value)}{a:Act}{w:World}{d:Option Tmp}{v:Value}(hs:∀(j:Nat)(o:Oper) cs b,l[j]?=some o->o.op≠ .select cs b)(h:Z2l P l fl pd D a w)
 (h1:∀p∈D,∀o,l[p.1]?=some o->∀e,d=some e->e∉o.looksAt l.toArray) (h2:∀p∈D,∀e,Q2m l p.1=some e->d≠some e):Z2l P l fl pd D (a.put d v) w:=by
 induction D generalizing a with
 |nil=>trivial
 |cons q D ih=>
  have e1:Z0y l (a.put d v) q=(Z0y l a q).put d v:=Act.put_comm a v q.2 (fun e he hh=>h2 q (by simp) e hh he);refine⟨?_,by rw[e1];exact ih h.2 (fun p hp=>h1 p (by simp[hp])) (fun p hp=>h2 p (by simp[hp]))⟩;obtain⟨o,ho,hy⟩:=h.1;have g1:=execOp_put (ops:=l.toArray) o (fun cs b=>hs _ o cs b ho) a d v (h1 q (by simp) o ho);have g2:=wanted_put (ops:=l.toArray) o a d v (h1 q (by simp) o ho);refine⟨o,ho,?_⟩;unfold Q7z at*;rw[g1,g2];exact hy

theorem Z2l.after{pd pd2 D:List (Nat×Value)}{a:Act}{w w':World}{d:Option Tmp}{v:Value}{ds:List Deferred}(hs:∀(j:Nat)(o:Oper) cs b,l[j]?=some o->o.op≠ .select cs b)(h:Z2l P l fl pd D a w)
 (h1:∀p∈D,∀o,l[p.1]?=some o->∀e,d=some e->e∉o.looksAt l.toArray) (h2:∀p∈D,∀e,Q2m l p.1=some e->d≠some e)
 (h3:∀p∈D,p∈pd->p∈pd2) (hst:Z2k P l pd2 (Q0y l D (({a with defers:=ds}:Act).put d v)) w')
 (hcl:∀D1 p D2,D=D1++p::D2->fl.getD p.1 2=1->∀q∈p::D2,clobB l p.1 q.1=false):Z2l P l fl pd2 D (({a with defers:=ds}:Act).put d v) w':=by
 induction D generalizing a with
 |nil=>trivial
 |cons q D ih=>
  have e0:Z0y l ({a with defers:=ds}:Act) q={Z0y l a q with defers:=ds}:=by unfold Z0y;cases Q2m l q.1<;>rfl
  have e1:Z0y l (({a with defers:=ds}:Act).put d v) q=({Z0y l a q with defers:=ds}:Act).put d v:=by
   rw[<-e0];exact Act.put_comm _ v q.2 (fun e he hh=>h2 q (by simp) e hh he)
  have hst':Z2k P l pd2 (Q0y l D (Z0y l (({a with defers:=ds}:Act).put d v) q)) w':=hst;refine⟨?_,by rw[e1];exact ih h.2 (fun p hp=>h1 p (by simp[hp])) (fun p hp=>h2 p (by simp[hp])) (fun p hp=>h3 p (by simp[hp])) (by rw[e1]at hst';exact hst') (fun D1 p D2 hD=>hcl (q::D1) p D2 (by simp[hD]))⟩;obtain⟨o,ho,hy⟩:=h.1;have hsel:∀cs b,o.op≠ .select cs b:=fun cs b=>hs _ o cs b ho;have g1:execOp (({a with defers:=ds}:Act).put d v).eval o=execOp a.eval o:=(execOp_put (ops:=l.toArray) o hsel _ d v (h1 q (by simp) o ho)).trans rfl;have g2:Q7z l o (({a with defers:=ds}:Act).put d v)=Q7z l o a:=(wanted_put (ops:=l.toArray) o _ d v (h1 q (by simp) o ho)).trans rfl;refine⟨o,ho,?_⟩;rw[g2]
  rcases hy with hy|⟨hw,hr,hk⟩
  . exact .inl hy
  . refine .inr ⟨hw,?_⟩
    rcases hk with⟨h0,hk⟩|⟨hl,hk⟩
    . rw[g1];exact⟨hk w',.inl ⟨h0,hk⟩⟩
    . have hm:=h3 q (by simp) hk;refine⟨?_,.inr ⟨hl,hm⟩⟩;have hs1:=hst q hm o ho;have hc:=hcl [] q D rfl hl
      rw[(Z4p (D:=q::D) hsel (fun p hp e he=>by
       have:=hc p hp;unfold clobB at this;rw[ho]at this;unfold Q2m at he;cases hop:l[p.1]?with
       |none=>rw[hop]at he;cases he
       |some op=>
        rw[hop]at he this
        simp only[Option.bind_some]at he
        simp only[he]at this
        intro hh;rw[List.contains_iff_mem.2 hh]at this;cases this) _).1]at hs1
      exact hs1

theorem Y1s{listed:Array Bool}{n j:Nat}(hn:listed.size=n)(hj:j<n):listed.getD j true=listed.getD j false:=by
 rw[Array.getD_eq_getD_getElem?,Array.getD_eq_getD_getElem?,Array.getElem?_eq_getElem (by omega)]
 rfl

theorem ser_any(hs:∀(j:Nat)(o:Oper) cs b,l[j]?=some o->o.op≠ .select cs b)(hcl:∀(j:Nat)(o:Oper),l[j]?=some o->∀e∈o.after,Region.binds .any e=true->e.on<l.length)
 (hQ:∀c a i v w,Q (.panic c) (Act.put a (Q2m l i) v) w->Q (.panic c) a w):
 ∀(fuel:Nat)(listed:Array Bool)(a:Act)(w:World)(D pd:List (Nat×Value))(R:List Nat),listed.size=l.length->
  (∀j,j<l.length->(listed.getD j false=false↔j∈D.map (·.1)++R))->(∀j∈D.map (·.1)++R,j<l.length)->
  (∀(j:Nat)(o:Oper),listed.getD j false=true->l[j]?=some o->∀e∈o.after,Region.binds .any e=true->listed.getD e.on false=true)->
  Good l fl (D.map (·.1)++R)->Z2l P l fl pd D a w->H8 P l fl Q pd R (Q0y l D a) w->D.length+R.length<=fuel->wpAnyIn Fence.wide 0 P .any l.toArray Q fuel listed a w:=by
 intro fuel
 induction fuel with
 |zero=>
  intro listed a w D pd R hn hin hlt hdn hg hp hw hf;have hD:D=[]:=List.eq_nil_of_length_eq_zero (by omega);have hR:R=[]:=List.eq_nil_of_length_eq_zero (by omega);subst hD;subst hR;refine⟨?_,hw⟩;cases hr:Region.ready .any l.toArray listed with
  |nil=>rfl
  |cons j js=>
   exfalso
   have hj:j∈Region.ready .any l.toArray listed:=by rw[hr];simp
   rw[mem_ready]at hj;obtain⟨h0,o,ho,_⟩:=hj;rw[List.getElem?_toArray]at ho;have hjl:j<l.length:=(List.getElem?_eq_some_iff.1 ho).1;rw[Y1s hn hjl]at h0;have:=(hin j hjl).1 h0
   simp at this
 |succ fuel ih=>
  intro listed a w D0 pd0 R0 hn hin hlt hdn hg hp0 hw0 hf;obtain⟨D,pd,R,heq,hp,hw,hR⟩:=absorb R0 D0 pd0 a w hp0 hw0
  have hlen:D.length+R.length<=fuel+1:=by
   have:=congrArg List.length heq
   simp at this
   omega
  rw[heq]at hin hlt hg
  clear heq hp0 hw0 hf
  refine⟨fun hnil=>?_,fun j hj=>?_⟩
  · -- nothing may come up: all has been done
   cases hx:D.map (·.1)++R with
   |nil=>
    obtain⟨h1,h2⟩:=List.append_eq_nil_iff.1 hx;have hD:D=[]:=by simpa using h1
    subst hD;subst h2;exact hw
   |cons x xs=>
    exfalso
    rw[hx]at hin hlt hg;have hxl:x<l.length:=hlt x (by simp);have hx0:listed.getD x false=false:=(hin x hxl).2 (by simp)
    have hmem:x∈Region.ready .any l.toArray listed:=by
     rw[mem_ready];refine⟨by rw[Y1s hn hxl];exact hx0,l[x],by rw[List.getElem?_toArray,kM hxl],fun e he hb=>?_⟩;have hel:=hcl x _ (kM hxl) e he hb;cases hh:listed.getD e.on false with
     |true=>rfl
     |false=>
      exfalso
      rcases qZ.1 ((hin e.on hel).1 hh)with h|h
      . exact hg.2.2.1 _ (kM hxl) e he hb h
      . exact(hg.1 _ h).no _ (kM hxl) e he hb rfl
    rw[hnil]at hmem;cases hmem
  . rw[mem_ready]at hj;obtain⟨h0,o,ho,hrd⟩:=hj;rw[List.getElem?_toArray]at ho;have hjl:j<l.length:=(List.getElem?_eq_some_iff.1 ho).1;rw[Y1s hn hjl]at h0
    have hpre:∀r k,Pre l r k->(k=j\/listed.getD k false=true)->listed.getD r false=true:=by
     intro r k hpr
     induction hpr with
     |base hk he hb=>
      rintro(rfl|hk2)
      . rw[ho]at hk;cases hk;exact hrd _ he hb
      . exact hdn _ _ hk2 hk _ he hb
     |step hk he hb _ ih2=>
      rintro(rfl|hk2)
      . rw[ho]at hk;cases hk;exact ih2 (.inr (hrd _ he hb))
      . exact ih2 (.inr (hdn _ _ hk2 hk _ he hb))
    have hun:∀i,i∈D.map (·.1)++R->¬Pre l i j:=fun i hi hpi=>by
     have h1:=(hin i (hlt i hi)).2 hi;rw[hpre i j hpi (.inl rfl)]at h1;cases h1
    have hn':(listed.setIfInBounds j true).size=l.length:=by simp[hn]
    have hset:∀i,(listed.setIfInBounds j true).getD i false=if i=j then true else listed.getD i false:=by
     intro i
     by_cases hij:i=j
     . subst hij;rw[if_pos rfl,Array.getD_eq_getD_getElem?,Array.getElem?_setIfInBounds_self_of_lt (by omega)]
       rfl
     . rw[if_neg hij,getD_set_ne false (Ne.symm hij)]
    have hdn':∀(i:Nat)(o:Oper),(listed.setIfInBounds j true).getD i false=true->l[i]?=some o->∀e∈o.after,Region.binds .any e=true->(listed.setIfInBounds j true).getD e.on false=true:=by
     intro i o2 hi ho2 e he hb;refine getD_set_true ?_;rw[hset]at hi
     split at hi
     . rename_i hij
       subst hij;rw[ho]at ho2;cases ho2;exact hrd e he hb
     . exact hdn i o2 hi ho2 e he hb
    have hjm:=(hin j hjl).1 h0
    have hap:∀i,i∈D.map (·.1)->X3s l fl i j->∀oi,l[i]?=some oi->oi.apart l.toArray o=true:=fun i hi hpp oi hoi=>by
     rcases hpp.ap with h|h
     . exact absurd h (hun i (List.mem_append_left _ hi))
     . exact h oi o hoi ho
    have hgood:∀(D1:List (Nat×Value)),(∀p∈D1,X3s l fl p.1 j/\p.1∈D.map (·.1))->
     (∀p∈D1,∀d,Q2m l p.1=some d->d∉o.looksAt l.toArray)/\(∀p∈D1,∀e,Q2m l p.1=some e->o.dst≠some e)/\(∀p∈D1,∀o2,l[p.1]?=some o2->∀e,o.dst=some e->e∉o2.looksAt l.toArray):=by
     intro D1 hD1;refine⟨fun p hp d hd=>?_,fun p hp d hd=>?_,fun p hp o2 ho2 d hd=>?_⟩
     . unfold Q2m at hd;cases hop:l[p.1]?with
       |none=>rw[hop]at hd;cases hd
       |some o2=>
        rw[hop]at hd;exact(Oper.apart_spec (hap p.1 (hD1 p hp).2 (hD1 p hp).1 o2 hop)).1 d hd
     . unfold Q2m at hd;cases hop:l[p.1]?with
       |none=>rw[hop]at hd;cases hd
       |some o2=>
        rw[hop]at hd;exact(Oper.apart_spec (hap p.1 (hD1 p hp).2 (hD1 p hp).1 o2 hop)).2.1 d hd
     . exact(Oper.apart_spec (hap p.1 (hD1 p hp).2 (hD1 p hp).1 o2 ho2)).2.2 d hd
    unfold wpOpIn;rw[List.getElem?_toArray,ho]
    simp only
    rcases jQ.1 hjm with hjD|hjR
    · -- one of those that wait
     obtain⟨⟨j',v⟩,hm,hj'⟩:=List.mem_map.1 hjD
     simp only at hj'
     subst hj';obtain⟨D1,D2,rfl⟩:=List.append_of_mem hm;have hgp:=hg;rw[jC,List.map_cons,qS,jX]at hgp;have hpr:=hgp.pair;have hA:=hgood D1 (fun p hp=>⟨hpr.1 p.1 (List.mem_map_of_mem hp),List.mem_map_of_mem (by simp[hp])⟩);obtain⟨hp1,hy,hp2⟩:=hp.split;obtain⟨o',ho',hy⟩:=hy;rw[ho]at ho';cases ho';have hev:=Z4p (D:=D1) (fun cs b=>hs _ o cs b ho) hA.1 a;rw[hev.2,hev.1]at hy;have hdst:Q2m l j'=o.dst:=by simp[Q2m,ho]
     have hfin:wpAnyIn Fence.wide 0 P .any l.toArray Q fuel (listed.setIfInBounds j' true) (a.put o.dst v) w:=by
      have hpp:Q0y l D1 (a.put o.dst v)=(Q0y l D1 a).put o.dst v:=Y0n (fun p hp e he=>hA.2.1 p hp e he) a v;have hpi:Z0y l (Q0y l D1 a) (j',v)=(Q0y l D1 a).put o.dst v:=by simp[Z0y,hdst]
      refine ih _ _ _ (D1++D2) pd R hn' ?_ ?_ hdn' ?_ ?_ ?_ ?_
      . intro i hi;rw[hset]
        by_cases hij:i=j'
        . subst hij;rw[if_pos rfl];refine⟨fun h=>(Bool.noConfusion h),fun h=>?_⟩
          exfalso
          simp only[jC,qS,jQ]at h
          rcases h with h|h|h
          . exact(hpr.1 i h).ne rfl
          . exact(hpr.2 i (List.mem_append_left _ h)).ne rfl
          . exact(hpr.2 i (List.mem_append_right _ h)).ne rfl
        . rw[if_neg hij,hin i hi]
          simp only[jC,List.map_cons,qS,jQ,qZ]
          constructor
          . rintro(h|(h|h)|h)
            . exact .inl h
            . exact absurd h hij
            . exact .inr (.inl h)
            . exact .inr (.inr h)
          . rintro(h|h|h)
            . exact .inl h
            . exact .inr (.inl (.inr h))
            . exact .inr (.inr h)
      . intro i hi;refine hlt i ?_
        simp only[jC,List.map_cons,qS,jQ,qZ]at hi⊢
        rcases hi with h|h|h
        . exact .inl h
        . exact .inr (.inl (.inr h))
        . exact .inr (.inr h)
      . refine hg.sub ?_;rw[jC,jC,List.map_cons];exact List.Sublist.append (List.Sublist.append (List.Sublist.refl _) (List.Sublist.cons _ (List.Sublist.refl _))) (List.Sublist.refl _)
      . refine Z2l.append (hp1.put hs hA.2.2 hA.2.1) ?_;rw[hpp];rw[hpi]at hp2;exact hp2
      . have:Q0y l (D1++(j',v)::D2) a=Q0y l (D1++D2) (a.put o.dst v):=by
         simp only[Q0y,List.foldl_append,List.foldl_cons]
         show Q0y l D2 (Z0y l (Q0y l D1 a) (j',v))=Q0y l D2 (Q0y l D1 (a.put o.dst v));rw[hpp,hpi]
        rw[<-this];exact hw
      . simp at hlen⊢
        omega
     rcases hy with⟨hy1,hy2⟩|⟨hy1,hy2,_⟩
     . have hb:Region.wanted o (yielded l.toArray a.tmps)=false:=hy1
       simp only at hy2
       subst hy2;rw[hb];exact⟨fun _ _=>trivial,hfin⟩
     . have hb:Region.wanted o (yielded l.toArray a.tmps)=true:=hy1;rw[hb];refine⟨fun _ _=>trivial,?_⟩;show o.uponIn _ _ _ _ _ _ ((o.semAt none a.eval).run P w);rw[Oper.semAt_none,hy2];exact hfin
    · -- the next that writes
     rcases hR with rfl|⟨r,R',o',rfl,ho',hwr,hnz⟩
     . cases hjR
     . have hpr:=hg.pair
       have hjr:j=r:=by
        rcases qZ.1 hjR with h|h
        . exact h
        . exact absurd ((hpr.2 j h).nz hnz) (hun r (by simp))
       subst hjr;rw[ho]at ho';cases ho';have hA:=hgood D (fun p hp=>⟨hpr.1 p.1 (List.mem_map_of_mem hp),List.mem_map_of_mem hp⟩);have hev:=Z4p (D:=D) (fun cs b=>hs _ o cs b ho) hA.1 a;have hb:Region.wanted o (yielded l.toArray a.tmps)=true:=hev.2.symm.trans hwr;rw[hb];unfold H8 at hw;obtain⟨o',ho',hw⟩:=hw;rw[ho]at ho';cases ho';rw[hwr]at hw
       have hw2:o.wpIn Fence.wide 0 P (Q0y l D a) w (fun a' w'=>Z2k P l (pd.filter fun p=>!((Q9w l).getD j 0).testBit p.1) a' w'/\H8 P l fl Q (pd.filter fun p=>!((Q9w l).getD j 0).testBit p.1) R' a' w') Q:=by
        simp only at hw
        unfold nzB at hnz
        split at hw
        . rename_i h;rw[h]at hnz;cases hnz
        . rename_i h;rw[h]at hnz;cases hnz
        . exact hw
       refine Oper.wpIn_mono ?_ (X1v (fun cs b=>hs _ o cs b ho) hA.1 hA.2.1 hQ hw2);rintro a' w' ⟨⟨u,ds,rfl⟩,hst,hw3⟩;refine ih _ _ _ D (pd.filter fun p=>!((Q9w l).getD j 0).testBit p.1) R' hn' ?_ ?_ hdn' ?_ ?_ hw3 ?_
       . intro i hi;rw[hset]
         by_cases hij:i=j
         . subst hij;rw[if_pos rfl];refine⟨fun h=>(Bool.noConfusion h),fun h=>?_⟩
           exfalso
           rcases jQ.1 h with h|h
           . exact(hpr.1 i h).ne rfl
           . exact(hpr.2 i h).ne rfl
         . rw[if_neg hij,hin i hi]
           simp only[jQ,qZ]
           constructor
           . rintro(h|h|h)
             . exact .inl h
             . exact absurd h hij
             . exact .inr h
           . rintro(h|h)
             . exact .inl h
             . exact .inr (.inr h)
       . intro i hi;refine hlt i ?_
         simp only[jQ,qZ]at hi⊢
         rcases hi with h|h
         . exact .inl h
         . exact .inr (.inr h)
       . exact hg.sub (List.Sublist.append (List.Sublist.refl _) (List.Sublist.cons _ (List.Sublist.refl _)))
       . refine hp.after hs hA.2.2 hA.2.1 (fun p hp hpd=>?_) hst (fun D1 p D2 hD hl=>?_)
         . refine List.mem_filter.2 ⟨hpd,?_⟩;cases hb2:((Q9w l).getD j 0).testBit p.1 with
           |false=>rfl
           |true=>exact absurd (Z5y l _ _ hb2) (hun p.1 (List.mem_append_left _ (List.mem_map_of_mem hp)))
         . have hg2:=hg;rw[hD,jC,List.map_cons,qS,jX]at hg2;have hg3:Good l fl (p.1::(D2.map (·.1)++j::R')):=hg2.sub (List.sublist_append_right _ _)
           rcases hg3.2.1 hl with h|h
           . intro q hq;refine h q.1 ?_
             rcases qZ.1 hq with rfl|hq
             . simp
             . exact List.mem_cons_of_mem _ (List.mem_append_left _ (List.mem_map_of_mem hq))
           . exact absurd (h j (by simp) hnz) (hun p.1 (List.mem_append_left _ (List.mem_map_of_mem (by rw[hD];simp))))
       . simp at hlen⊢
         omega

theorem Y9d{ord:List Nat}(hB:serB l fl ord=true)(hQ:∀c a i v w,Q (.panic c) (Act.put a (Q2m l i) v) w->Q (.panic c) a w){a:Act}{w:World}(h:H8 P l fl Q [] ord a w):
 wpAnyIn Fence.wide 0 P .any l.toArray Q l.length (Array.replicate l.length false) a w:=by
 simp only[serB,qM,List.all_eq_true]at hB
 obtain⟨⟨⟨⟨⟨h1,h2⟩,h3⟩,h4⟩,h5⟩,h6⟩:=hB
 have hsel:∀(j:Nat)(o:Oper) cs b,l[j]?=some o->o.op≠ .select cs b:=by
  intro j o cs b ho hop;unfold Region.noSelect at h4;rw[Array.all_eq_true_iff_forall_mem]at h4;have:=h4 o (by simpa using jW ho);rw[hop]at this;cases this
 have hcl:∀(j:Nat)(o:Oper),l[j]?=some o->∀e∈o.after,Region.binds .any e=true->e.on<l.length:=by
  intro j o ho e he hb
  simp only[Y6q,List.all_eq_true]at h5
  have:=h5 o (jW ho);rw[Array.all_eq_true_iff_forall_mem]at this;have:=this e he;rw[hb]at this
  simpa[Nat.blt_eq]using this
 have hrep:∀i,i<l.length->(Array.replicate l.length false).getD i false=false:=fun i hi=>by simp[Array.getD_eq_getD_getElem?,hi]
 refine ser_any hsel hcl hQ l.length _ a w [] [] ord (by simp) ?_ ?_ ?_ (good_of ord h6) trivial h ?_
 . intro j hj;refine⟨fun _=>?_,fun _=>hrep j hj⟩
   simpa using h3 j (List.mem_range.2 hj)
 . intro j hj
   simpa[Nat.blt_eq]using h2 j (by simpa using hj)
 . intro j o hj ho;rw[hrep j (List.getElem?_eq_some_iff.1 ho).1]at hj;cases hj
 . have:=Nat.eq_of_beq_eq_true h1
   simp
   omega
end

section
variable{P:Program}{l:Ah}{fl:List Nat}{Q:Ac}{pd:List (Nat×Value)}{i:Nat}{is:List Nat}{n:NF}{J:Nat->Value}{L:List (Nat×Value)}{w w' w0:World}
 {d:Nat} {ty:TypeId} {pos:String} {aft:Ag} {op:Op} {v:Value} {x y c:Operand} {t t2:TypeId} {T:TP} {gd:Option (Nat×Bool)}

def Wt(l:Ah)(n:NF)(J:Nat->Value)(L:List (Nat×Value)):Option (Nat×Bool)->Prop
 |none=>True
 |some (g,want)=>∃d0,(l[g]?).bind (·.dst)=some d0/\ev n J L (.tmp d0)= .bool want
def Wf(l:Ah)(n:NF)(J:Nat->Value)(L:List (Nat×Value)):Option (Nat×Bool)->Prop
 |none=>False
 |some (g,want)=>∃d0,(l[g]?).bind (·.dst)=some d0/\(ev n J L (.tmp d0)= .bool (!want)\/ev n J L (.tmp d0)=undef)

theorem gI{l:Ah}{n:NF}{J:Nat->Value}{L:List (Nat×Value)}{g d0:Nat}{want b:Bool}(h1:(l[g]?).bind (·.dst)=some d0)(h2:ev n J L (.tmp d0)= .bool b)(h:b=!want):Wf l n J L (some (g,want)):=⟨d0,h1,.inl (h2.trans (congrArg Value.bool h))⟩
theorem Y8y{g d0:Nat}(h:(l[g]?).bind (·.dst)=some d0):yielded l.toArray (env n J L).tmps g=match ev n J L (.tmp d0)with
 | .bool b=>some b
 |_=>none:=by
 rw[Z3e];unfold yv;rw[List.getElem?_toArray,h]
 try(simp only[];split<;>simp_all)
theorem Y2v{o:Oper}(hg:o.guard=gd)(h:Wt l n J L gd):Q7z l o (env n J L)=true:=by
 unfold Q7z Region.wanted;rw[hg];cases gd with
 |none=>rfl
 |some p=>
  obtain⟨d0,h1,h2⟩:=h
  simp only
  rw[Y8y h1,h2]
  simp
theorem want_f{o:Oper}(hg:o.guard=gd)(h:Wf l n J L gd):Q7z l o (env n J L)=false:=by
 unfold Q7z Region.wanted;rw[hg];cases gd with
 |none=>exact h.elim
 |some p=>
  obtain⟨d0,h1,h2⟩:=h
  simp only
  rw[Y8y h1]
  rcases h2 with h2|h2
  . rw[h2];cases p.2<;>rfl
  . rw[h2];simp[undef]

theorem rs{id:Nat}(fl:List Nat)(ord:List Nat)(hm:P.follows .mixedOrders=true)(hB:serB l fl ord=true)(hb:Bd T w)
 (k:∀w',Inn w.heap.size noB T w T w'->H8 P l fl (NoPanic Q) [] ord (env n J L) w'):(Code.region id l.toArray true).wp P Q (env n J L) w:=by
 refine(wpIn_wide (n:=0)).1 (wpIn_mono (Q:=NoPanic Q) (wpIn_region_any hm ?_) fun e a w h=>by cases e<;>first|exact h|exact h.elim)
 have:=Y9d hB (Q:=NoPanic Q) (fun _ _ _ _ _ h=>h.elim) (k w.drew ((Inn.refl hb (qD _)).ch0 (Ch.drew noB w)))
 simpa using this

theorem se(h:Q .normal (env n J L) w):H8 P l fl (NoPanic Q) pd [] (env n J L) w:=h
theorem s0(ho:l[i]?=some ⟨some d,op,ty,pos,aft,gd⟩)(hw:Wt l n J L gd)(h:∀w,(execOp (ev n J L) ⟨some d,op,ty,pos,aft,none⟩).run P w= .ok (.value v) w)(hf:fl.getD i 2=0)
 (k:H8 P l fl Q pd is (env n J ((d,v)::L)) w):H8 P l fl Q pd (i::is) (env n J L) w:=by
 refine⟨_,ho,?_⟩;rw[Y2v rfl hw,hf];refine⟨v,fun w=>?_,?_⟩
 . rw[Q1c];exact h w
 . show H8 P l fl Q pd is (Act.put _ (some d) v) w;rw[Q7r];exact k
theorem s1(ho:l[i]?=some ⟨some d,op,ty,pos,aft,gd⟩)(hw:Wt l n J L gd)(h:(execOp (ev n J L) ⟨some d,op,ty,pos,aft,none⟩).run P w= .ok (.value v) w)(hf:fl.getD i 2=1)
 (k:H8 P l fl Q ((i,v)::pd) is (env n J ((d,v)::L)) w):H8 P l fl Q pd (i::is) (env n J L) w:=by
 refine⟨_,ho,?_⟩;rw[Y2v rfl hw,hf];refine⟨v,?_,?_⟩
 . rw[Q1c];exact h
 . show H8 P l fl Q ((i,v)::pd) is (Act.put _ (some d) v) w;rw[Q7r];exact k
theorem sU(ho:l[i]?=some ⟨some d,op,ty,pos,aft,gd⟩)(hw:Wf l n J L gd)(k:H8 P l fl Q pd is (env n J ((d,undef)::L)) w):H8 P l fl Q pd (i::is) (env n J L) w:=by
 refine⟨_,ho,?_⟩;rw[want_f rfl hw];show H8 P l fl Q pd is (Act.put _ (some d) undef) w;rw[Q7r];exact k
theorem s2{dst:Option Tmp}(pd2:List (Nat×Value))(ho:l[i]?=some ⟨dst,op,ty,pos,aft,gd⟩)(hw:Wt l n J L gd)(hf:fl.getD i 2=2)(hp:(pd.filter fun p=>!((Q9w l).getD i 0).testBit p.1)=pd2)
 (h:Oper.wp P ⟨dst,op,ty,pos,aft,none⟩ (env n J L) w (fun a' w'=>Z2k P l pd2 a' w'/\H8 P l fl Q pd2 is a' w') Q):H8 P l fl Q pd (i::is) (env n J L) w:=by
 refine⟨_,ho,?_⟩;rw[Y2v rfl hw,hf];subst hp;exact wp_in h
theorem st0{a:Act}:Z2k P l [] a w:=fun p hp=>by cases hp
theorem st1{j:Nat}{u:Value}(ho:l[j]?=some ⟨some d,op,ty,pos,aft,gd⟩)(h:(execOp (ev n J L) ⟨some d,op,ty,pos,aft,none⟩).run P w= .ok (.value u) w)(k:Z2k P l pd (env n J L) w):Z2k P l ((j,u)::pd) (env n J L) w:=fun p hp o' ho'=>by
 rcases qZ.1 hp with rfl|hp
 . rw[ho]at ho'
   cases ho'
   rw[Q1c]
   exact h
 . exact k p hp o' ho'

section
variable{ops:Array Oper}
theorem SlR.ixq{α:Type}{r:Rp α}{l:List α}{v:Value}{i:Int}{u:α}{sz:Nat}(h:SlR r T w v l)(hi:idx l i=some u)(hz:r.sz=sz):
 ∃b off cs k cap,v= .slice (some ⟨b,k,none⟩) l.length cap/\0<=i/\i<l.length/\off=k+i.toNat*sz/\r.rp T w cs u/\cellsAt w b off cs:=by
 subst hz;obtain⟨h0,h1,h2⟩:=Q2d hi;obtain⟨b,off,cap,cs,hv,_,hr,hc⟩:=h.atI h2;exact⟨b,_,cs,off,cap,hv,h0,by omega,rfl,hr,hc⟩
theorem OwS.ixq{α:Type}{r:Rp α}{e:TypeId}{B sz:Nat}{l:List α}{v:Value}{i:Int}{u:α}(h:OwS r e B T w v l)(hi:idx l i=some u)(hz:r.sz=sz):
 ∃b off cs k cap,v= .slice (some ⟨b,k,none⟩) l.length cap/\0<=i/\i<l.length/\off=k+i.toNat*sz/\r.rp T w cs u/\cellsAt w b off cs:=by
 subst hz;obtain⟨h0,h1,h2⟩:=Q2d hi;obtain⟨b,cap,cs,hv,_,hr,hc⟩:=h.atI h2;exact⟨b,_,cs,0,cap,hv,h0,by omega,rfl,hr,hc⟩
theorem r_ixe{b off k len cap sz:Nat}{ik:IntKind}{i:Int}{e:TypeId}(hx:ev n J L x= .slice (some ⟨b,k,none⟩) len cap)(hy:ev n J L y= .int ik i)(ht:P.underlying t=some (.slice e))(hs:∀w,(sizeOf e).run P w= .ok sz w)(h0:0<=i)(h1:i<len)
 (ho:off=k+i.toNat*sz):(execOp (ev n J L) ⟨some d,.indexAddr t x y,ty,pos,aft,none⟩).run P w= .ok (.value (.pointer (some ⟨b,off,none⟩))) w:=by
 subst ho;exact r_ix hx hy ht hs h0 h1
theorem Y2k{b b1:Bool}(hc:ev n J L c= .bool b)(hb:b=true)(hx:ev n J L x= .bool b1):(execOp (ev n J L) ⟨some d,.pick c x y,ty,pos,aft,none⟩).run P w= .ok (.value (.bool b1)) w:=by
 subst hb
 simp[execOp,hc,hx,go_sem]
theorem Y2l{b b2:Bool}(hc:ev n J L c= .bool b)(hb:b=false)(hy:ev n J L y= .bool b2):(execOp (ev n J L) ⟨some d,.pick c x y,ty,pos,aft,none⟩).run P w= .ok (.value (.bool b2)) w:=by
 subst hb
 simp[execOp,hc,hy,go_sem]
theorem r_lnt{a:Aa}(hx:ev n J L x= .string ⟨a.toArray⟩)(ht:P.underlying t=some .string):(execOp (ev n J L) ⟨some d,.call ⟨.builtin .len,#[x],#[t]⟩,ty,pos,aft,none⟩).run P w= .ok (.value (.int .i64 (a.length:Int))) w:=by
 have e:((⟨a.toArray⟩:ByteArray).size:Int)=a.length:=by simp[ByteArray.size]
 rw[<-e];exact r_lns hx ht
end
end
section
variable{P:Program}{n:NF}{J:Nat->Value}{L:List (Nat×Value)}{w:World}

def RVs(P:Program)(n:NF)(J:Nat->Value)(L:List (Nat×Value))(w:World):List ResultVar->Ab->Prop
 |[],[]=>True
 | .tmp t::rs,v::vs=>ev n J L (.tmp t)=v/\RVs P n J L w rs vs
 | .cell a ty::rs,v::vs=>(∃ad,ev n J L (.tmp a)= .pointer (some ad)/\(loadVar ty ad).run P w= .ok v w)/\RVs P n J L w rs vs
 |_,_=>False

theorem X5f(t:Nat):(env n J L).tmps.getD t undef=ev n J L (.tmp t):=by rw[<-Q1c];rfl

def Y0f(tmps:Array Value):ResultVar->Sem Value
 | .tmp t=>pure (tmps.getD t undef)
 | .cell a t=>do loadVar t (<-asAddr (tmps.getD a undef))

theorem X2i:∀(rs:List ResultVar)(vs:Ab),RVs P n J L w rs vs->(rs.mapM (Y0f (env n J L).tmps)).run P w= .ok vs w:=by
 intro rs
 induction rs with
 |nil=>
  intro vs h;cases vs with
  |nil=>simp only[List.mapM_nil,Sem.run_pure]
  |cons v vs=>cases h
 |cons r rs ih=>
  intro vs h;cases vs with
  |nil=>cases r<;>cases h
  |cons v vs=>
   cases r with
   |tmp t=>
    obtain⟨h1,h2⟩:=h
    simp only[List.mapM_cons,Sem.run_bind,Y0f,Sem.run_pure,kT,ih vs h2,X5f,h1]
   |cell a ty=>
    obtain⟨⟨ad,h1,h2⟩,h3⟩:=h
    simp only[List.mapM_cons,Sem.run_bind,Y0f,Sem.run_pure,kT,ih vs h3,X5f,h1,asAddr,h2]

def tupV:Ab->Value
 |[v]=>v
 |vs=> .tuple vs.toArray

theorem resN{fn:Func}{rs:List ResultVar}{vs:Ab}{u:Value}(hr:fn.results=rs.toArray)(hv:RVs P n J L w rs vs)(hu:tupV vs=u):(results fn (env n J L).tmps).run P w= .ok u w:=by
 have h:=X2i rs vs hv
 have hm:results fn (env n J L).tmps=(do
  let vs<-fn.results.mapM (Y0f (env n J L).tmps)
  pure (if h:vs.size=1 then vs[0]else .tuple vs)):=by
  unfold results
  rfl
 rw[hm,hr,List.mapM_toArray]
 simp only[Sem.run_bind,Sem.run_map,h,kT,Sem.run_pure]
 subst hu;cases vs with
 |nil=>simp[tupV]
 |cons v vs=>cases vs<;>simp[tupV]

theorem retN{m:Nat}{fn:Func}{R:Ending->World->Prop}{rs:List ResultVar}{vs:Ab}{u:Value}(hr:fn.results=rs.toArray)(hv:RVs P (nf m) J L w rs vs)(hu:tupV vs=u)(hR:R (.returned u) w):bodyPost P fn R .ret (env (nf m) J L) w:=
 bodyPost_ret (resN hr hv hu) rfl hR

theorem rvS{a:Tmp}{ty:TypeId}{b sz:Nat}{cs:Ab}(hx:ev n J L (.tmp a)= .pointer (some ⟨b,0,none⟩))(ht:∀w,(isAgg ty).run P w= .ok true w)(hs:∀w,(sizeOf ty).run P w= .ok sz w)(hl:cs.length=sz)(hb:Box w b cs):
 ∃ad,ev n J L (.tmp a)= .pointer (some ad)/\(loadVar ty ad).run P w= .ok (.agg cs.toArray) w:=by
 subst hl;refine⟨_,hx,?_⟩
 have:=run_loadCells_list (P:=P) (w:=w) ⟨b,0,none⟩ cs (fun j v hj=>by
  rw[Addr.add_lit,Nat.zero_add,hb.cell];exact hj)
 simp[loadVar,ht,hs,this]
theorem rv1{a:Tmp}{ty:TypeId}{b:Nat}{v:Value}(hx:ev n J L (.tmp a)= .pointer (some ⟨b,0,none⟩))(ht:∀w,(isAgg ty).run P w= .ok false w)(hb:Box w b [v]):
 ∃ad,ev n J L (.tmp a)= .pointer (some ad)/\(loadVar ty ad).run P w= .ok v w:=by
 refine⟨_,hx,?_⟩;have:w.cell? ⟨b,0,none⟩=some v:=by rw[hb.cell];rfl
 simp[loadVar,ht,go_sem,this]
end
structure AtR(L:List X1)(i:Nat)(A:X1):Prop where
 lt:Nat.blt i (J8 L)=true
 at_:atA L i=A

def K7(b:Nat)(cs:Ab):X1 where
 P:=fun _ w F=>(∀k,F k↔k=b)/\Box w b cs
 loc:=fun⟨h1,e,h2⟩ _ hs=>⟨h1,e,(hs _ (.inr ((h1 _).2 rfl))).trans h2⟩
 bnd:=fun⟨h1,h2⟩ k hk=>by rw[(h1 k).1 hk];exact h2.lt

structure Ln(b o:Nat)(H:Ab->X1):Prop where
 rd:∀{T:TP}{w:World}{F:TP}{cs:Ab},(H cs).P T w F->cellsAt w b o cs
 wr:∀{T:TP}{w:World}{F:TP}{cs:Ab},(H cs).P T w F->(∀k,F k->¬T k)->∃blk e,w.heap[b]?=some (.cells blk e (0,0))/\F b/\o+cs.length<=blk.size/\
  ∀j new,j+new.length<=cs.length->(∀u∈new,u.oneCell'=true)->(H (Q0e cs j new)).P T (w.setRow b (Q0e blk.toList (o+j) new).toArray) F

theorem Q1j(b:Nat):Ln b 0 (K7 b) where
 rd:=fun⟨_,h⟩ j v hj=>by rw[Nat.zero_add,h.cell];exact hj
 wr:=fun{T w F cs}⟨h1,e,h2⟩ _=>⟨cs.toArray,e,h2,(h1 b).2 rfl,by simp,fun j new _ _=>⟨h1,e,by
  rw[setRow_heap w b _ _ e (0,0) h2];simp[Q0e]⟩⟩

theorem Y7u{T:TP}{w:World}(hb:Bd T w)(b:Nat)(cs:Array Value)(hT:¬T b):Inn w.heap.size (·=b) T w T (w.setRow b cs):=
 (Inn.refl hb (qD _)).ch1 (Ch.setRow (S:=(·=b)) w b _ rfl) fun k hk=>⟨hk▸hT,.inr hk⟩

section
variable{g:World}{T T':TP}{w w':World}{G:List X1}{i q:Nat}{A B:X1}
theorem Sep.getA(h:Sep g T w G)(hi:AtR G i A):∃F,A.P T w F/\∀k,F k->¬T k:=by
 have:=h.get i hi.lt;rw[hi.at_]at this;exact this
theorem Sep.cellB{b o j:Nat}{H:Ab->X1}{cs:Ab}{v:Value}(h:Sep g T w G)(hi:AtR G i (H cs))(hL:Ln b o H)(hj:cs[j]?=some v):w.cell? ⟨b,o+j,none⟩=some v:=
 let⟨_,hF,_⟩:=h.getA hi
 hL.rd hF j v hj
theorem Sep.cellsB{b o:Nat}{H:Ab->X1}{cs:Ab}(h:Sep g T w G)(hi:AtR G i (H cs))(hL:Ln b o H):cellsAt w b o cs:=
 let⟨_,hF,_⟩:=h.getA hi
 hL.rd hF
theorem Sep.cell0{b j:Nat}{cs:Ab}{v:Value}(h:Sep g T w G)(hi:AtR G i (K7 b cs))(hj:cs[j]?=some v):w.cell? ⟨b,j,none⟩=some v:=by
 have:=h.cellB hi (Q1j b) hj
 rwa[Nat.zero_add]at this
theorem Sep.cells0{b o:Nat}{cs ds:Ab}(h:Sep g T w G)(hi:AtR G i (K7 b cs))(hs:(cs.drop o).take ds.length=ds):cellsAt w b o ds:=by
 have:=(h.cellsB hi (Q1j b)).sub o hs
 rwa[Nat.zero_add]at this
theorem Sep.setRow{H:Ab->X1}{b o j:Nat}{cs cur:Ab}(hS:Sep g T w G)(hi:AtR G i (H cur))(hL:Ln b o H)(h1:∀u∈cs,u.oneCell'=true)(hfit:j+cs.length<=cur.length):
 ∃blk e,w.heap[b]?=some (.cells blk e (0,0))/\o+cur.length<=blk.size/\Im T w T (w.setRow b (Q0e blk.toList (o+j) cs).toArray)/\Sep g T (w.setRow b (Q0e blk.toList (o+j) cs).toArray) (A9 G i (H (Q0e cur j cs))):=by
 obtain⟨F,hF,hn⟩:=hS.getA hi;obtain⟨blk,e,hg,hFb,hsz,hwr⟩:=hL.wr hF hn;have hinn:=Y7u hS.lt b (Q0e blk.toList (o+j) cs).toArray (hn b hFb);refine⟨blk,e,hg,hsz,hinn.imm,hS.put i hi.lt hinn fun F' hF' hn'=>?_⟩;rw[hi.at_]at hF';obtain⟨blk',e',hg',hFb',hsz',hwr'⟩:=hL.wr hF' hn';rw[hg]at hg';cases hg';exact⟨fun k hk=>hk▸hFb',F',hwr' j cs hfit h1,fun k hk=>⟨.inl hk,hn' k hk⟩⟩
end

def OwC{α:Type}(r:Rp α)(e:TypeId)(T:TP)(w:World)(v:Value)(l:List α):Prop:=
 ∃css:List (Ab),css.length=l.length/\w.ownsRow 0 e r.sz v l.length css.flatten/\(∀(i:Nat)(cs:Ab)(x:α),css[i]?=some cs->l[i]?=some x->r.rp T w cs x)
theorem OwC.s{α:Type}{r:Rp α}{e:TypeId}{T:TP}{w:World}{v:Value}{l:List α}(h:OwC r e T w v l)(hn:∀k,v.ownBlock=some k->¬T k):OwS r e 0 T w v l:=
 let⟨css,h1,h2,h3⟩:=h
 ⟨css,h1,h2,h3,hn⟩
theorem OwS.c{α:Type}{r:Rp α}{e:TypeId}{T:TP}{w:World}{v:Value}{l:List α}(h:OwS r e 0 T w v l):OwC r e T w v l:=
 let⟨css,h1,h2,h3,_⟩:=h
 ⟨css,h1,h2,h3⟩

def F5{α:Type}(r:Rp α)(e:TypeId)(v:Value)(l:List α):X1 where
 P:=fun T w F=>OwC r e T w v l/\∀k,F k↔v.ownBlock=some k
 loc:=fun{T T' w w' F}⟨h,hF⟩ hT hs=>by
  obtain⟨css,h1,h2,h3⟩:=h
  refine⟨⟨css,h1,⟨h2.1,?_⟩,fun j cs x hc hx=>r.mono (fun k hk=>⟨hT k hk,hs k (.inl hk)⟩) (h3 j cs x hc hx)⟩,hF⟩
  rcases h2.2 with hn|⟨g,cap,cur,hv,hb,hgg,rest⟩
  . exact .inl hn
  . exact .inr ⟨g,cap,cur,hv,hb,(hs g (.inr ((hF g).2 (by rw[hv];rfl)))).trans hgg,rest⟩
 bnd:=fun{T w F}⟨h,hF⟩ k hk=>by
  obtain⟨css,h1,h2,h3⟩:=h
  have hk:=(hF k).1 hk
  rcases h2.2 with⟨hn,_⟩|⟨g,cap,cur,hv,hb,hgg,rest⟩
  . rw[hn]at hk;cases hk
  . rw[hv]at hk;cases hk;exact hlt hgg

def Y3c{K V:Type}(enk:K->Value)(en:V->Value)(v:Value)(m:Option (List (K×V))):X1 where
 P:=fun _ w F=>(v= .map none/\m=none/\∀k,¬F k)\/∃b l,v= .map (some b)/\m=some l/\Y6h enk en w b l/\∀k,F k↔k=b
 loc:=fun h _ hs=>by
  rcases h with h|⟨b,l,h1,h2,⟨es,c,h3,h4⟩,h5⟩
  . exact .inl h
  . exact .inr ⟨b,l,h1,h2,⟨es,c,(hs b (.inr ((h5 b).2 rfl))).trans h3,h4⟩,h5⟩
 bnd:=fun h k hk=>by
  rcases h with⟨_,_,h⟩|⟨b,l,h1,h2,h3,h5⟩
  . exact absurd hk (h k)
  . rw[(h5 k).1 hk];exact h3.lt

def SlV{α:Type}(r:Rp α)(T:TP)(w:World)(v:Value)(l:List α):Prop:=
 ∃a cap,v= .slice a l.length cap/\l.length<=cap/\cap<=maxLen/\
  (l=[]\/∃b off,a=some ⟨b,off,none⟩/\∀i x,l[i]?=some x->∃cs,r.rp T w cs x/\cellsAt w b (off+i*r.sz) cs)

theorem SlR.v{α:Type}{r:Rp α}{T:TP}{w:World}{v:Value}{l:List α}(h:SlR r T w v l):SlV r T w v l:=by
 obtain⟨a,cap,e,h1,h2,h3⟩:=h;refine⟨a,cap,e,h1,h2,?_⟩
 rcases h3 with h3|⟨b,off,ha,hT,hx⟩
 . exact .inl h3
 . exact .inr ⟨b,off,ha,hx⟩
theorem OwC.v{α:Type}{r:Rp α}{e:TypeId}{T:TP}{w:World}{v:Value}{l:List α}(h:OwC r e T w v l):SlV r T w v l:=by
 obtain⟨css,h1,h2,h3⟩:=h;have hs:=OwS.sizes h1 h3;have h2':=h2
 rcases h2.2 with⟨hv,h0⟩|⟨g,cap,cur,hv,hb,hg,hn,hm,_⟩
 . exact⟨none,0,by rw[hv,h0],by omega,by simp[maxLen],.inl (List.eq_nil_of_length_eq_zero h0)⟩
 . refine⟨some ⟨g,0,none⟩,cap,hv,hn,hm,.inr ⟨g,0,rfl,fun i x hi=>?_⟩⟩
   have hl:i<l.length:=by
    rcases Nat.lt_or_ge i l.length with h|h
    . exact h
    . rw[kU h]at hi;cases hi
   have hcs:css[i]?=some css[i]:=kM (by omega);refine⟨css[i],h3 i _ x hcs hi,fun j u hj=>?_⟩;have hf:=Z5v hs hcs hj;have:=h2'.cells (g:=g) (by rw[hv];rfl) _ _ hf
   simpa[Addr.add_lit]using this
theorem OwS.v{α:Type}{r:Rp α}{e:TypeId}{T:TP}{w:World}{v:Value}{l:List α}(h:OwS r e 0 T w v l):SlV r T w v l:=h.c.v
theorem SlV.shape{α:Type}{r:Rp α}{T:TP}{w:World}{v:Value}{l:List α}(h:SlV r T w v l):∃a c,v= .slice a l.length c:=let⟨a,c,h,_⟩:=h;⟨a,c,h⟩
theorem SlV.part{α:Type}{r:Rp α}{T:TP}{w:World}{ad:OA}{l u:List α}{len cap:Nat}{a b:Int}(h:SlV r T w (.slice ad len cap) l)(hs:sub l a b=some u):
 ∃a' c',Value.slice (if cap=a.toNat then ad else ad.map (·.add (a.toNat*r.sz))) (b.toNat-a.toNat) (cap-a.toNat)= .slice a' u.length c'/\SlV r T w (.slice a' u.length c') u:=by
 obtain⟨h0,h1,h2,rfl⟩:=Z1s hs;obtain⟨a0,c0,hv,h5,h6,h7⟩:=h;cases hv;have hl:((l.take b.toNat).drop a.toNat).length=b.toNat-a.toNat:=by simp;omega
 refine⟨_,cap-a.toNat,by rw[hl],_,_,rfl,by rw[hl];omega,by omega,?_⟩
 rcases h7 with h7|⟨bk,off,rfl,hx⟩
 . exact .inl (by rw[h7];simp)
 . by_cases hca:cap=a.toNat
   . exact .inl (List.eq_nil_of_length_eq_zero (by rw[hl];omega))
   . refine .inr ⟨bk,off+a.toNat*r.sz,by rw[if_neg hca];simp[Addr.add_lit],fun i x hi=>?_⟩;rw[List.getElem?_drop]at hi
     have hi2:l[a.toNat+i]?=some x:=by
      rw[List.getElem?_take]at hi
      split at hi
      . exact hi
      . cases hi
     obtain⟨cs,hr,hcs⟩:=hx _ x hi2;exact⟨cs,hr,by rw[show off+a.toNat*r.sz+i*r.sz=off+(a.toNat+i)*r.sz by rw[Nat.add_mul];omega];exact hcs⟩
def Vw{α:Type}(H:X1)(r:Rp α)(v:Value)(l:List α):Prop:=∀T w F,H.P T w F->SlV r T w v l

section
variable{g:World}{T T':TP}{w w':World}{G:List X1}{i q:Nat}{A B:X1}
theorem Sep.own{α:Type}{r:Rp α}{e:TypeId}{v:Value}{l:List α}(h:Sep g T w G)(hi:AtR G i (F5 r e v l)):OwS r e 0 T w v l:=
 let⟨_,⟨h1,h2⟩,hn⟩:=h.getA hi
 h1.s fun k hk=>hn k ((h2 k).2 hk)
theorem Sep.view{α:Type}{r:Rp α}{v:Value}{l:List α}{H:X1}(h:Sep g T w G)(hi:AtR G i H)(hv:Vw H r v l):SlV r T w v l:=
 let⟨F,hF,_⟩:=h.getA hi
 hv T w F hF
theorem vwOwn{α:Type}{r:Rp α}{e:TypeId}{v:Value}{l:List α}:Vw (F5 r e v l) r v l:=fun T w F ⟨h,_⟩=>h.v
end
def J6(T:TP)(w:World)(R:(TP)->World->Value->Prop)(e:Ending)(w':World):Prop:=
 ∃v,e= .returned v/\∃T',Im T w T' w'/\R T' w' v

section
variable{P:Program}{ops:Array Oper}{Q:Ac}{rest:Ah}{n:NF}{J:Nat->Value}{L:List (Nat×Value)}{w w' w0 g:World}
 {d:Nat} {ty:TypeId} {pos:String} {aft:Ag} {op:Op} {v:Value} {x y c:Operand} {t t2:TypeId} {T:TP} {KK:Act->World->Prop} {Qa:Act->Prop} {C:World->Prop} {G:List X1} {q p:Nat}

theorem pv(h:(execOp (ev n J L) ⟨some d,op,ty,pos,aft,none⟩).run P w= .ok (.value v) w)(k:wpList P ops Q rest (env n J ((d,v)::L)) w):wpList P ops Q (⟨some d,op,ty,pos,aft,none⟩::rest) (env n J L) w:=Z6s h k
theorem qv(h:∀w,C w->(execOp (ev n J L) ⟨some d,op,ty,pos,aft,none⟩).run P w= .ok (.value v) w)(k:wpQuiet P ops C Qa rest (env n J ((d,v)::L))):wpQuiet P ops C Qa (⟨some d,op,ty,pos,aft,none⟩::rest) (env n J L):=q_val h k

theorem alS{z:Value}{zs:Ab}(hz:∀w,(zeroValue t).run P w= .ok z w)(hc:z.cells.toList=zs)(hS:Sep g T w G)
 (k:∀w' b,Im T w T w'->Sep g T w' (K7 b zs::G)->KK (env n J ((d,.pointer (some ⟨b,0,none⟩))::L)) w'):
 Oper.wp P ⟨some d,.alloc t,ty,pos,aft,none⟩ (env n J L) w KK Q:=
 al hz hc hS.lt fun w' b i bx ge nt=>k w' b i.imm (hS.cons i (fun _ h=>h) (F:=(·=b)) ⟨fun k=>Iff.rfl,bx⟩ fun k hk=>by subst hk;exact⟨ge,nt⟩)
theorem bxS{v:Value}{cs:Ab}(hx:ev n J L x=v)(hc:v.cells.toList=cs)(hS:Sep g T w G)
 (k:∀w' b,Im T w T w'->Sep g T w' (K7 b cs::G)->KK (env n J ((d,.pointer (some ⟨b,0,none⟩))::L)) w'):
 Oper.wp P ⟨some d,.box t x,ty,pos,aft,none⟩ (env n J L) w KK Q:=
 bxv hx hc hS.lt fun w' b i bx ge nt=>k w' b i.imm (hS.cons i (fun _ h=>h) (F:=(·=b)) ⟨fun k=>Iff.rfl,bx⟩ fun k hk=>by subst hk;exact⟨ge,nt⟩)

theorem X2n{cs:Ab}(h:cs.all Value.oneCell'=true):∀u∈cs,u.oneCell'=true:=fun u hu=>List.all_eq_true.1 h u hu

theorem Y5m{b o sz:Nat}{cs:Ab}{blk:Array Value}{e:TypeId}(hx:ev n J L x= .pointer (some ⟨b,o,none⟩))(hy:ev n J L y=v)(hv:v.cells.toList=cs)(hs:∀w,(sizeOf t).run P w= .ok sz w)(hl:cs.length=sz)
 (h1:cs.all Value.oneCell'=true) (hg:w.heap[b]?=some (.cells blk e (0,0))) (hfit:o+cs.length<=blk.size):
 (execOp (ev n J L) ⟨none,.store t x y,ty,pos,aft,none⟩).run P w= .ok .skip (w.setRow b (Q0e blk.toList o cs).toArray):=by
 subst hl;subst hv;have hst:=run_storeCells_at P b o e v.cells.toList 0 blk w hg (by simpa using hfit) (X2n h1)
 simp only[Nat.add_zero]at hst
 simp only[execOp,Instr.storeAt,storeVar,hx,hy,Instr.sureAddr,Sem.run_bind,Sem.run_pure,kT,hs]
 rw[if_neg (by simp)]
 simp only[kT,hst]
 rfl

theorem stB{H:Ab->X1}{b o j sz:Nat}{cs cur:Ab}{v:Value}(hS:Sep g T w G)(hi:AtR G q (H cur))(hL:Ln b o H)(hx:ev n J L x= .pointer (some ⟨b,o+j,none⟩))(hy:ev n J L y=v)(hv:v.cells.toList=cs)
 (hs:∀w,(sizeOf t).run P w= .ok sz w) (hl:cs.length=sz) (h1:cs.all Value.oneCell'=true) (hfit:Nat.ble (j+cs.length) cur.length=true)
 (k:∀w',Im T w T w'->Sep g T w' (A9 G q (H (Q0e cur j cs)))->KK (env n J L) w'):
 Oper.wp P ⟨none,.store t x y,ty,pos,aft,none⟩ (env n J L) w KK Q:=by
 have hf:=kN hfit;obtain⟨blk,e,hg,hsz,him,hS'⟩:=hS.setRow hi hL (X2n h1) hf;exact X0b (Y5m hx hy hv hs hl h1 hg (by omega)) (k _ him hS')
theorem st0B{b j sz:Nat}{cs cur:Ab}{v:Value}(hS:Sep g T w G)(hi:AtR G q (K7 b cur))(hx:ev n J L x= .pointer (some ⟨b,j,none⟩))(hy:ev n J L y=v)(hv:v.cells.toList=cs)
 (hs:∀w,(sizeOf t).run P w= .ok sz w) (hl:cs.length=sz) (h1:cs.all Value.oneCell'=true) (hfit:Nat.ble (j+cs.length) cur.length=true)
 (k:∀w',Im T w T w'->Sep g T w' (A9 G q (K7 b (Q0e cur j cs)))->KK (env n J L) w'):
 Oper.wp P ⟨none,.store t x y,ty,pos,aft,none⟩ (env n J L) w KK Q:=
 stB hS hi (Q1j b) (by rw[Nat.zero_add];exact hx) hy hv hs hl h1 hfit k

theorem Q8r{cur cs:Ab}{o:Nat}(h:o+cs.length<=cur.length):(Q0e cur o cs).length=cur.length:=by
 simp[Q0e];omega
theorem Q8s{cur cs:Ab}{o i:Nat}(h:o+cs.length<=cur.length):(Q0e cur o cs)[i]?=if i<o then cur[i]?else if i<o+cs.length then cs[i-o]?else cur[i]?:=by
 unfold Q0e
 by_cases h1:i<o
 . rw[if_pos h1,qS,kR (by simp;omega),List.getElem?_take,if_pos h1]
 . rw[if_neg h1]
   by_cases h2:i<o+cs.length
   . rw[if_pos h2,kR (by simp;omega),kS (by simp;omega)]
     congr 1;simp;omega
   . rw[if_neg h2,kS (by simp;omega),List.getElem?_drop]
     congr 1;simp;omega

theorem Z5u{css:List (Ab)}{sz:Nat}(hs:∀cs∈css,cs.length=sz){i j:Nat}{c0 new:Ab}(hi:css[i]?=some c0)(hj:j+new.length<=sz):
 (css.set i (Q0e c0 j new)).flatten=Q0e css.flatten (i*sz+j) new:=by
 induction css generalizing i with
 |nil=>simp at hi
 |cons c css ih=>
  have hc:c.length=sz:=hs c (by simp)
  have hfl:css.flatten.length=css.length*sz:=by
   rw[List.length_flatten]
   have:∀(l:List (Ab)),(∀cs∈l,cs.length=sz)->(l.map List.length).sum=l.length*sz:=by
    intro l
    induction l with
    |nil=>simp
    |cons a l ih2=>intro h;simp[h a (by simp),ih2 (fun cs hcs=>h cs (by simp[hcs])),Nat.succ_mul,Nat.add_comm]
   exact this css (fun cs hcs=>hs cs (by simp[hcs]))
  cases i with
  |zero=>
   simp at hi
   subst hi
   simp only[List.set_cons_zero,List.flatten_cons,Nat.zero_mul,Nat.zero_add]
   apply List.ext_getElem?;intro k;rw[Q8s (by simp;omega)]
   rcases Nat.lt_or_ge k c.length with hk|hk
   . rw[kR (by rw[Q8r (by omega)];exact hk),Q8s (by omega)]
     simp only[kR hk]
   . rw[kS (by rw[Q8r (by omega)];exact hk),Q8r (by omega),if_neg (by omega),if_neg (by omega),kS hk]
  |succ i=>
   simp at hi
   have hin:i<css.length:=by
    rcases Nat.lt_or_ge i css.length with h|h
    . exact h
    . rw[kU h]at hi;cases hi
   have hle:i*sz+sz<=css.flatten.length:=by
    rw[hfl,<-Nat.succ_mul];exact Nat.mul_le_mul_right _ hin
   simp only[List.set_cons_succ,List.flatten_cons]
   rw[ih (fun cs hcs=>hs cs (by simp[hcs])) hi];apply List.ext_getElem?;intro k;rw[Q8s (by rw[qW,hc,Nat.succ_mul];omega)]
   rcases Nat.lt_or_ge k c.length with hk|hk
   . rw[kR hk,if_pos (by rw[Nat.succ_mul];omega),kR hk]
   . rw[kS hk,Q8s (by omega),kS hk];have e1:(k-c.length<i*sz+j)↔(k<(i+1)*sz+j):=by rw[Nat.succ_mul];omega
     have e2:(k-c.length<i*sz+j+new.length)↔(k<(i+1)*sz+j+new.length):=by rw[Nat.succ_mul];omega
     have e3:k-c.length-(i*sz+j)=k-((i+1)*sz+j):=by rw[Nat.succ_mul];omega
     simp only[e1,e2,e3]

theorem stO{α:Type}{r:Rp α}{e:TypeId}{l:List α}{u u':α}{b k0 off j cap n0 i sz:Nat}{sv v:Value}{cs:Ab}(hS:Sep g T w G)(hi:AtR G q (F5 r e sv l))(hsv:sv= .slice (some ⟨b,k0,none⟩) n0 cap)(hu:l[i]?=some u)
 (ho:off=k0+i*r.sz) (hx:ev n J L x= .pointer (some ⟨b,off+j,none⟩)) (hy:ev n J L y=v) (hv:v.cells.toList=cs) (hs:∀w,(sizeOf t).run P w= .ok sz w) (hl:cs.length=sz) (h1:cs.all Value.oneCell'=true)
 (hfit:Nat.ble (j+cs.length) r.sz=true) (hup:∀c0,r.rp T w c0 u->r.rp T w (Q0e c0 j cs) u')
 (k:∀w',Im T w T w'->Sep g T w' (A9 G q (F5 r e sv (l.set i u')))->KK (env n J L) w'):
 Oper.wp P ⟨none,.store t x y,ty,pos,aft,none⟩ (env n J L) w KK Q:=by
 have hf:=kN hfit;obtain⟨F,⟨hc,hF⟩,hn⟩:=hS.getA hi;obtain⟨css,c1,c2,c3⟩:=hc;have hsz:=OwS.sizes c1 c3
 have hil:i<l.length:=by
  rcases Nat.lt_or_ge i l.length with h|h
  . exact h
  . rw[kU h]at hu;cases hu
 have hcs:css[i]?=some css[i]:=kM (by omega)
 rcases c2.2 with⟨hz,_⟩|⟨b',cap',cur,hv',hb',hgg,hnc,hmx,hcur,htake⟩
 . rw[hsv]at hz;cases hz
 rw[hsv]at hv';cases hv';rw[Nat.zero_add]at ho;subst ho;have hrow:i*r.sz+r.sz<=l.length*r.sz:=by rw[<-Nat.succ_mul];exact Nat.mul_le_mul_right _ hil
 have hcapr:l.length*r.sz<=cap*r.sz:=Nat.mul_le_mul_right _ hnc;have hfit2:i*r.sz+j+cs.length<=cur.size:=by omega
 have hbF:F b:=(hF b).2 (by rw[hsv];rfl);have hnT:¬T b:=hn b hbF;have hinn:=Y7u hS.lt b (Q0e cur.toList (i*r.sz+j) cs).toArray hnT;refine X0b (Y5m hx hy hv hs hl h1 hgg hfit2) (k _ hinn.imm ?_);refine hS.put q hi.lt hinn fun F' hF' hn'=>?_;rw[hi.at_]at hF';have hF2:=hF'.2;refine⟨fun k hk=>hk▸(hF2 b).2 (by rw[hsv];rfl),F',⟨⟨css.set i (Q0e css[i] j cs),by simp[c1],⟨?_,.inr ⟨b,cap,(Q0e cur.toList (i*r.sz+j) cs).toArray,by simpa using hsv,by omega,?_,by simpa using hnc,hmx,?_,?_⟩⟩,?_⟩,hF2⟩,fun k hk=>⟨.inl hk,hn' k hk⟩⟩
 . rw[Z5u hsz hcs hf,Q8r (by rw[c2.1];omega),c2.1];simp
 . rw[setRow_heap w b _ _ e (0,0) hgg]
 . simp only[List.size_toArray]
   rw[Q8r (by simpa using hfit2)]
   simpa using hcur
 . rw[Z5u hsz hcs hf,<-htake];apply List.ext_getElem?;intro m;have hlen:(l.set i u').length=l.length:=by simp
   have htl:(List.take (l.length*r.sz) cur.toList).length=l.length*r.sz:=by simp;omega
   rw[hlen,Q8s (by rw[htl];omega),List.getElem?_take,Q8s (by simpa using hfit2),List.getElem?_take]
   by_cases hm:m<l.length*r.sz
   . simp only[hm,if_true]
   . simp only[hm,if_false]
     rw[if_neg (by omega),if_neg (by omega)]
 . intro m c z hc hz;rw[List.getElem?_set]at hc hz
   by_cases him:i=m
   . subst him
     simp only[if_true,hil,show i<css.length by omega]at hc hz
     cases hc;cases hz;exact r.mono hinn.imm (hup _ (c3 i _ u hcs hu))
   . simp only[him,if_false]at hc hz
     exact r.mono hinn.imm (c3 m c z hc hz)

theorem Sep.grow{α:Type}{r:Rp α}{e:TypeId}{v v':Value}{l l':List α}(hS:Sep g T w G)(hi:AtR G q (F5 r e v l))(i:Inn w.heap.size (ownS v) T w T w')(ho:OwS r e 0 T w' v' l')(hd:∀b,b<w.heap.size->Dj v b->Dj v' b):
 Sep g T w' (A9 G q (F5 r e v' l')):=by
 refine hS.put q hi.lt i fun F hF hn=>?_;rw[hi.at_]at hF;obtain⟨_,hF⟩:=hF;obtain⟨css,c1,c2,c3,c4⟩:=ho;refine⟨fun k hk=>(hF k).2 hk,fun k=>v'.ownBlock=some k,⟨⟨css,c1,c2,c3⟩,fun _=>Iff.rfl⟩,fun k hk=>⟨?_,c4 k hk⟩⟩
 rcases Nat.lt_or_ge k w.heap.size with h|h
 . refine .inl ((hF k).2 ?_);refine Classical.byContradiction fun hh=>?_;exact hd k h (fun m hm hmk=>hh (hmk▸hm)) k hk rfl
 . exact .inr h

theorem Y3v(base:Nat)(t ty e:TypeId)(i:TypeInfo)(size:Nat)(ht:P.underlying t=some (.slice e))(hi:P.info? e=some i)
 (v:Value) (n:Nat) (xs:Ab) (hown:w.ownsRow base e size v n xs) (c:Nat):(Builtin.append_ #[t,t] ty #[v,.slice none 0 c]).run P w= .ok v w:=by
 rcases hown.2 with⟨rfl,rfl⟩|⟨g,cap,cur,rfl,_,hg,hnc,_⟩
 . simp[Builtin.append_,run_underlying ht,sizeOf,typeInfo,hi,Builtin.lenOf,Builtin.firstCells]
 . simp[Builtin.append_,run_underlying ht,sizeOf,typeInfo,hi,Builtin.lenOf,Builtin.firstCells,hnc,storeCells]

theorem Sep.same{A:X1}(hS:Sep g T w G)(hi:AtR G q A):A9 G q A=G:=by
 have:=hi.at_;have hlt:q<J8 G:=kN hi.lt
 clear hi hS
 induction G generalizing q with
 |nil=>rfl
 |cons B G ih=>
  cases q with
  |zero=>simp only[atA]at this;rw[<-this];rfl
  |succ q=>
   simp only[atA]at this
   simp only[A9]
   rw[ih this (by simpa[J8]using hlt)]

theorem apO{α:Type}{r:Rp α}{e:TypeId}{l us:List α}{v2:Value}(hS:Sep g T w G)(hi:AtR G q (F5 r e v l))(hx:ev n J L x=v)(hy:ev n J L y=v2)(h2:SlV r T w v2 us)
 (ht:P.underlying t=some (.slice e)) (he:Q1g P e r.sz) (hroom:l.length+us.length<=8589934592)
 (k:∀w' a m c,Im T w T w'->Sep g T w' (A9 G q (F5 r e (.slice a m c) (l++us)))->KK (env n J ((d,.slice a m c)::L)) w'):
 Oper.wp P ⟨some d,.call ⟨.builtin .append,#[x,y],#[t,t]⟩,ty,pos,aft,none⟩ (env n J L) w KK Q:=by
 have ho:=hS.own hi
 have k':∀v' w',Im T w T w'->OwS r e 0 T w' v' (l++us)->Sep g T w' (A9 G q (F5 r e v' (l++us)))->KK (env n J ((d,v')::L)) w':=fun v' w' him ho' hs'=>by
  obtain⟨a,c,hv'⟩:=ho'.shape;subst hv';exact k w' _ _ _ him hs'
 obtain⟨a,cap,hv,h5,h6,h7⟩:=h2
 have hcore:∀(b off:Nat),a=some ⟨b,off,none⟩->(∀i x,us[i]?=some x->∃cs,r.rp T w cs x/\cellsAt w b (off+i*r.sz) cs)->
  Oper.wp P ⟨some d,.call ⟨.builtin .append,#[x,y],#[t,t]⟩,ty,pos,aft,none⟩ (env n J L) w KK Q:=by
  intro b off ha hx';subst ha
  have hch:∃css:List (Ab),css.length=us.length/\∀(i:Nat)(cs:Ab)(u:α),css[i]?=some cs->us[i]?=some u->r.rp T w cs u/\cellsAt w b (off+i*r.sz) cs:=by
   refine⟨(qT us.length).map fun i=>if h:i<us.length then Classical.choose (hx' i us[i] (kM h))else[],by simp,?_⟩;intro i cs u hc hu
   have hi:i<us.length:=by
    rcases Nat.lt_or_ge i us.length with h|h
    . exact h
    . rw[kU h]at hu;cases hu
   have hcs:cs=Classical.choose (hx' i us[i] (kM hi)):=by
    simp[hi]at hc
    exact hc.symm
   have hu':u=us[i]:=by rw[kM hi]at hu;exact(Option.some.inj hu).symm
   subst hu';subst hcs;exact Classical.choose_spec (hx' i us[i] (kM hi))
  obtain⟨css,hl,hcc⟩:=hch;have hsz:=OwS.sizes hl (fun i cs u hc hu=>(hcc i cs u hc hu).1);refine X6g (us:=us) (css:=css) hx ho (hy.trans hv) hl (fun i cs u hc hu=>(hcc i cs u hc hu).1) ?_ ht he hroom hS.lt (kX _) (fun v' w' inn ho' hd=>k' v' w' inn.imm ho' (hS.grow hi inn ho' hd));intro j u hj;obtain⟨i,z,hi',hz,hsz',hzs,hpos,hby⟩:=he.ex
  have hlt:j<css.flatten.length:=by
   rcases Nat.lt_or_ge j css.flatten.length with h|h
   . exact h
   . rw[kU h]at hj;cases hj
  have hfl:css.flatten.length=css.length*r.sz:=by
   rw[List.length_flatten]
   clear hcc hl hj hlt
   induction css with
   |nil=>simp
   |cons c css ih=>simp[hsz c (by simp),ih (fun cs h=>hsz cs (by simp[h])),Nat.succ_mul,Nat.add_comm]
  have hq:j/r.sz<css.length:=by rw[Nat.div_lt_iff_lt_mul hpos];omega
  have hm:j%r.sz<r.sz:=Nat.mod_lt _ hpos;have hcs:css[j/r.sz]?=some css[j/r.sz]:=kM hq;have hcl:=hsz css[j/r.sz] (jT hq);have hget:css[j/r.sz][j%r.sz]?=some css[j/r.sz][j%r.sz]:=kM (by omega);have hflat:=Z5v hsz hcs hget;have hjd:j/r.sz*r.sz+j%r.sz=j:=Nat.div_add_mod' j r.sz;rw[hjd]at hflat;rw[hflat]at hj;have hul:j/r.sz<us.length:=by omega
  have:=(hcc (j/r.sz) _ us[j/r.sz] hcs (kM hul)).2 _ _ hget;rw[Addr.add_lit,show off+j=off+j/r.sz*r.sz+j%r.sz by omega,this,<-hj]
 rcases h7 with h7|⟨b,off,ha,hx'⟩
 . subst h7;cases a with
   |some a=>
    obtain⟨b,off,sp⟩:=a;obtain⟨i,z,hi',hz,hsz',hzs,hpos,hby⟩:=he.ex;obtain⟨css,c1,c2,c3,c4⟩:=ho;refine X6g (us:=([]:List α)) (css:=[]) hx ⟨css,c1,c2,c3,c4⟩ (hy.trans hv) rfl (fun i cs u hc hu=>by simp at hc) (fun j u hj=>by simp at hj) ht he (by simpa using hroom) hS.lt (kX _) (fun v' w' inn ho' hd=>k' v' w' inn.imm ho' (hS.grow hi inn ho' hd))
   |none=>
    obtain⟨i,z,hi',hz,hsz',hzs,hpos,hby⟩:=he.ex;have hown:=ho.c;obtain⟨css,c1,c2,c3⟩:=hown;have hrun:=Y3v (P:=P) (w:=w) 0 t ty e i r.sz ht hi' v l.length _ c2 cap;refine Y2h (w':=w) (v:=v) ?_ (k' v w Im.refl (by rw[jK];exact ho) ?_)
    . simp only[execOp,resolve,invoke,builtin,Sem.run_bind,Sem.run_pure,kT,List.map_toArray,List.map_cons,List.map_nil,hx,hy,hv,hrun,List.length_nil]
    . rw[jK];rw[hS.same hi];exact hS
 . exact hcore b off ha hx'

theorem Sep.nilO{α:Type}(hS:Sep g T w G)(r:Rp α)(e:TypeId):Sep g T w (F5 r e (.slice none 0 0) []::G):=
 hS.cons (Inn.refl hS.lt (qD _):Inn w.heap.size noB T w T w) (fun _ h=>h) (F:=fun _=>False) ⟨⟨[],rfl,World.ownsRow_nil _ _ _ _,fun i cs x h=>by simp at h⟩,fun k=>by simp[Value.ownBlock]⟩ (fun k hk=>hk.elim)

theorem Sep.seal{α:Type}{r:Rp α}{e:TypeId}{v:Value}{l:List α}(hS:Sep g T w G)(q:Nat)(hi:AtR G q (F5 r e v l)):∃T',Im T w T' w/\Sep g T' w (A9 G q empA)/\SlR r T' w v l:=by
 have ho:=hS.own hi;refine⟨sealT T v,fun k hk=>⟨.inl hk,rfl⟩,hS.freeze q hi.lt (fun k=>v.ownBlock=some k) (fun F hF k hk=>?_),ho.sealR⟩;rw[hi.at_]at hF;exact(hF.2 k).2 hk

theorem bsS{α:Type}{r:Rp α}{l:List α}{css:List (Ab)}{e:TypeId}{len sz:Nat}{z:Value}{parts:Array (Nat×Operand)}{cells:Array Value}(hS:Sep g T w G)(ht:P.underlying t=some (.slice e))(hs:∀w,(sizeOf e).run P w= .ok sz w)(hz:∀w,(zeroValue e).run P w= .ok z w)
 (hle:Nat.ble (len*sz) 16777216=true) (h0:Nat.ble 1 (len*sz)=true) (hf:Instr.fill (fun i=>some (i*sz,sz)) ((Array.range (len*sz)).map (z.cells[·%z.cells.size]!)) (parts.toList.map fun p=>(p.1,ev n J L p.2))=some cells)
 (hcs:cells.toList=css.flatten) (ha:Y2e r T w css l) (hl:l.length=len) (hr:r.sz=sz)
 (k:∀w' a m c,Im T w T w'->Sep g T w' (F5 r e (.slice a m c) l::G)->KK (env n J ((d,.slice a m c)::L)) w'):
 Oper.wp P ⟨some d,.buildSlice t len parts,ty,pos,aft,none⟩ (env n J L) w KK Q:=by
 subst hl;subst hr;have hle':=kN hle;have h0':=kN h0
 have hpos:0<r.sz:=by
  rcases Nat.eq_zero_or_pos r.sz with h|h
  . rw[h]at h0';simp at h0'
  . exact h
 have hll:l.length<=l.length*r.sz:=Nat.le_mul_of_pos_right _ hpos;have inn:=Z2y hS.lt (.cells cells e) (w:=w);have hnew:(w.alloc (.cells cells e)).heap[w.heap.size]?=some (.cells cells e (0,0)):=heap_alloc_new w _
 have hfl:css.flatten.length=l.length*r.sz:=by
  have hsz:=OwS.sizes ha.len ha.get;rw[List.length_flatten,<-ha.len]
  clear hcs ha
  induction css with
  |nil=>simp
  |cons c css ih=>simp[hsz c (by simp),ih (fun cs h=>hsz cs (by simp[h])),Nat.succ_mul,Nat.add_comm]
 refine Y2h (w':=w.alloc (.cells cells e)) (v:= .slice (some ⟨w.heap.size,0,none⟩) l.length l.length) ?_ (k _ _ _ _ inn.imm (hS.cons inn (fun _ h=>h) (F:=(·=w.heap.size)) ⟨⟨css,ha.len,⟨hfl,.inr ⟨w.heap.size,l.length,cells,rfl,kX _,hnew,qD _,by simp only[maxLen];omega,?_,?_⟩⟩,fun i cs x hc hx=>r.mono inn.imm (ha.get i cs x hc hx)⟩,fun k=>?_⟩ (fun k hk=>?_)))
 . have hn:¬l.length*r.sz=0:=by omega
   have hn2:¬l.length*r.sz>2^24:=by omega
   have hp:(Array.map (fun p:Nat×Operand=>(p.1,ev n J L p.2)) parts).toList=parts.toList.map fun p=>(p.1,ev n J L p.2):=by simp
   simp only[execOp,Instr.buildSlice,Sem.run_bind,run_underlying ht,kT,hs,if_neg hn2,if_neg hn,hz,Sem.run_pure,hp,hf,pure_bind]
   rfl
 . rw[<-Array.length_toList,hcs,hfl]
 . rw[hcs,<-hfl,List.take_length]
 . simp[Value.ownBlock,eq_comm]
 . subst hk;exact⟨qD _,Y0t hS.lt⟩

theorem Y4k{zs:Ab}{sz:Nat}(hz:zs.length=sz)(hp:0<sz):∀(m j:Nat),(kZ m zs).flatten[j]?=if j<m*sz then zs[j%sz]?else none
 |0,j=>by simp
 |m+1,j=>by
  rw[List.replicate_succ,List.flatten_cons]
  by_cases h:j<sz
  . rw[kR (by omega),Nat.mod_eq_of_lt h,if_pos (by rw[Nat.succ_mul];omega)]
  . rw[kS (by omega),hz,Y4k hz hp m (j-sz)]
    have e1:(j-sz<m*sz)↔(j<(m+1)*sz):=by rw[Nat.succ_mul];omega
    have e2:(j-sz)%sz=j%sz:=by
     conv=>rhs;rw[show j=(j-sz)+sz by omega]
     simp
    simp only[e1,e2]
theorem msS{α:Type}{r:Rp α}{z0:α}{l:List α}{e:TypeId}{z:Value}{m:Int}{k1 k2:IntKind}(hS:Sep g T w G)(hx:ev n J L x= .int k1 m)(hy:ev n J L y= .int k2 m)(ht:P.underlying t=some (.slice e))(he:Q1g P e r.sz)
 (hz:∀w,(zeroValue e).run P w= .ok z w) (hr:r.rp T w z.cells.toList z0) (hl:repl m z0=some l)
 (k:∀w' a m c,Im T w T w'->Sep g T w' (F5 r e (.slice a m c) l::G)->KK (env n J ((d,.slice a m c)::L)) w'):
 Oper.wp P ⟨some d,.makeSlice t x y,ty,pos,aft,none⟩ (env n J L) w KK Q:=by
 unfold repl at hl
 split at hl
 next hm=>
  cases hl;obtain⟨i,z',hi,hz',hsz,hzs,hpos,hby⟩:=he.ex
  have hzz:z'=z:=by
   have:=hz w
   simp[zeroValue,typeInfo,hi,hz']at this
   exact this
  subst hzz;obtain⟨h0,h1⟩:=hm
  have hbytes:(i.bytes:Int)*m<=281474976710656:=by
   have hb:(i.bytes:Int)<=16384:=by omega
   calc(i.bytes:Int)*m<=16384*m:=Int.mul_le_mul_of_nonneg_right hb h0
    _<=281474976710656:=by omega
  have hrun:=run_make (P:=P) w t e i z' ht hi hz' k1 k2 m m h0 (Int.le_refl _) hbytes (by omega);rw[hsz]at hrun;have hml:(madeCells z'.cells (m.toNat*r.sz)).size=m.toNat*r.sz:=size_madeCells _ _;have hrl:z'.cells.toList.length=r.sz:=r.len hr
  have hfl:(madeCells z'.cells (m.toNat*r.sz)).toList=(kZ m.toNat z'.cells.toList).flatten:=by
   apply List.ext_getElem?;intro j;rw[Y4k hrl hpos]
   by_cases hj:j<m.toNat*r.sz
   . have hjm:j%r.sz<r.sz:=Nat.mod_lt _ hpos;rw[if_pos hj,Array.getElem?_toList,Array.getElem?_eq_getElem (by omega),Array.getElem?_toList,Array.getElem?_eq_getElem (by omega)]
     congr 1
     simp[madeCells,hzs,hjm]
   . rw[if_neg hj,kU (by rw[Array.length_toList];omega)]
  generalize madeCells z'.cells (m.toNat*r.sz)=cells at hrun hml hfl
  have inn:=Z2y hS.lt (.cells cells e) (w:=w);have hnew:(w.alloc (.cells cells e)).heap[w.heap.size]?=some (.cells cells e (0,0)):=heap_alloc_new w _;have hlen:(kZ m.toNat z0).length=m.toNat:=by simp
  have hmx:m.toNat<=maxLen:=by simp only[maxLen];omega
  refine Y2h (w':=w.alloc (.cells cells e)) (v:= .slice (some ⟨w.heap.size,0,none⟩) m.toNat m.toNat) ?_ (k _ _ _ _ inn.imm (hS.cons inn (fun _ h=>h) (F:=(·=w.heap.size)) ⟨⟨kZ m.toNat z'.cells.toList,by simp,⟨?_,.inr ⟨w.heap.size,m.toNat,cells,by rw[hlen],kX _,hnew,by rw[hlen];exact qD _,hmx,hml,?_⟩⟩,fun i cs x hc hx=>?_⟩,fun k=>?_⟩ (fun k hk=>?_)))
  . simp only[execOp,hx,hy,Sem.run_bind,hrun,kT,Sem.run_pure]
  . rw[<-hfl,Array.length_toList,hml,hlen]
  . rw[hlen,<-hfl,<-hml,<-Array.length_toList,List.take_length]
  . rw[List.getElem?_replicate]at hc hx
    split at hc
    . rename_i hlt
      rw[if_pos hlt]at hx;cases hc;cases hx;exact r.mono inn.imm hr
    . cases hc
  . simp[Value.ownBlock,eq_comm]
  . subst hk;exact⟨qD _,Y0t hS.lt⟩
 next=>cases hl

theorem calS{f:FuncId}{fo:Operand}{ca:Array Value}{args:Ab}{xs:Array Operand}{tys:Array TypeId}{R:(TP)->World->Value->Prop}(hok:Z2m P f)(hf:ev n J L fo= .func (.func f) #[] ca)(hc:Calls P f args.toArray w (J6 T w R))(ha:xs.toList.map (ev n J L)++ca.toList=args)
 (k:∀v T' w',Im T w T' w'->R T' w' v->KK (env n J ((d,v)::L)) w'):
 Oper.wp P ⟨some d,.call ⟨.value fo,xs,tys⟩,ty,pos,aft,none⟩ (env n J L) w KK Q:=by
 obtain⟨fn,h1,h2,h3⟩:=hok.ex;refine w_call (f:=f) (args:=args.toArray) (w':=w) (R:=fun v w'=>∃T',Im T w T' w'/\R T' w' v) ?_ hc (fun v w1 ⟨T',i,r⟩=>k v T' w1 i r);subst ha;have hm:(xs.map (ev n J L))++ca=(xs.toList.map (ev n J L)++ca.toList).toArray:=by apply Array.ext';simp
 have hr:=Z2u (w:=w) h1 h2 h3 (xs.map (ev n J L)++ca)
 simp only[execOp,resolve,hf,Deferred.ofValue,invoke,Array.empty_append,pure_bind]
 rw[hr,hm]
theorem calN{f:FuncId}{fo:Operand}{ca:Array Value}{args:Ab}{xs:Array Operand}{tys:Array TypeId}{R:(TP)->World->Value->Prop}(hok:Z2m P f)(hf:ev n J L fo= .func (.func f) #[] ca)(hc:Calls P f args.toArray w (J6 T w R))(ha:xs.toList.map (ev n J L)++ca.toList=args)
 (k:∀v T' w',Im T w T' w'->R T' w' v->KK (env n J L) w'):
 Oper.wp P ⟨none,.call ⟨.value fo,xs,tys⟩,ty,pos,aft,none⟩ (env n J L) w KK Q:=by
 obtain⟨fn,h1,h2,h3⟩:=hok.ex;subst ha;have hm:(xs.map (ev n J L))++ca=(xs.toList.map (ev n J L)++ca.toList).toArray:=by apply Array.ext';simp
 have hr:=Z2u (w:=w) h1 h2 h3 (xs.map (ev n J L)++ca)
 have he:(execOp (ev n J L) ⟨none,.call ⟨.value fo,xs,tys⟩,ty,pos,aft,none⟩).run P w= .ok (.enter f (xs.toList.map (ev n J L)++ca.toList).toArray) w:=by
  simp only[execOp,resolve,hf,Deferred.ofValue,invoke,Array.empty_append,pure_bind]
  rw[hr,hm]
 unfold Oper.wp;rw[Q1c,he,Oper.upon_enter];refine hc.mono ?_;rintro e w1 ⟨v,rfl,T',i,r⟩;show KK (Act.put _ none v) w1;rw[Y3z];exact k v T' w1 i r
end
section
variable{P:Program}{ops:Array Oper}{Q:Ac}{rest:Ah}{n:NF}{J:Nat->Value}{L:List (Nat×Value)}{w w' w0 g:World}
 {d:Nat} {ty:TypeId} {pos:String} {aft:Ag} {op:Op} {v:Value} {x y c:Operand} {t t2:TypeId} {T:TP} {KK:Act->World->Prop} {Qa:Act->Prop} {C:World->Prop} {G:List X1} {q p i:Nat}

theorem Sep.bx{b:Nat}{cs:Ab}(h:Sep g T w G)(hi:AtR G i (K7 b cs)):Box w b cs:=let⟨_,⟨_,h⟩,_⟩:=h.getA hi;h
theorem Q6y{m:Nat}{fn:Func}{R:Ending->World->Prop}(hr:fn.results=#[])(hR:R (.returned (.tuple #[])) w):bodyPost P fn R .normal (env (nf m) J L) w:=
 ⟨rfl,_,results_none hr _ _ _,hR⟩
theorem Z0w{α:Type}{r:Rp α}{T:TP}{w:World}{c0 new:Ab}{u:α}(h:r.rp T w c0 u)(hl:new.length=r.sz):Q0e c0 0 new=new:=by
 have:=r.len h
 simp[Q0e,hl,<-this]
theorem SlV.ixq{α:Type}{r:Rp α}{l:List α}{v:Value}{i:Int}{u:α}{sz:Nat}(h:SlV r T w v l)(hi:idx l i=some u)(hz:r.sz=sz):
 ∃b off cs k cap,v= .slice (some ⟨b,k,none⟩) l.length cap/\0<=i/\i<l.length/\off=k+i.toNat*sz/\r.rp T w cs u/\cellsAt w b off cs:=by
 subst hz;obtain⟨h0,h1,h2⟩:=Q2d hi;obtain⟨a,cap,hv,h5,h6,h7⟩:=h
 rcases h7 with rfl|⟨b,k,rfl,hx⟩
 . simp at h2
 . obtain⟨cs,hr,hc⟩:=hx _ _ h2;exact⟨b,_,cs,k,cap,hv,h0,by omega,rfl,hr,hc⟩
theorem SlR.len{α:Type}{r:Rp α}{l:List α}{a:OA}{m c:Nat}(h:SlR r T w (.slice a m c) l):m=l.length:=by
 obtain⟨_,_,hv,_⟩:=h;cases hv
 rfl
theorem SlR.ixT{α:Type}{r:Rp α}{l:List α}{v:Value}{i:Int}{u:α}{sz:Nat}(h:SlR r T w v l)(hi:idx l i=some u)(hz:r.sz=sz):
 ∃b off cs k cap,v= .slice (some ⟨b,k,none⟩) l.length cap/\0<=i/\i<l.length/\off=k+i.toNat*sz/\r.rp T w cs u/\cellsAt w b off cs/\T b:=by
 subst hz;obtain⟨h0,h1,h2⟩:=Q2d hi;obtain⟨a,cap,hv,h5,h6,h7⟩:=h
 rcases h7 with rfl|⟨b,k,rfl,hT,hx⟩
 . simp at h2
 . obtain⟨cs,hr,hc⟩:=hx _ _ h2;exact⟨b,_,cs,k,cap,hv,h0,by omega,rfl,hr,hc,hT⟩
theorem Y3w{fn:Fn}{fs cs:Array Operand}{u:Value}(hu:Value.func fn (fs.toList.map (ev n J L)).toArray (cs.toList.map (ev n J L)).toArray=u):
 (execOp (ev n J L) ⟨some d,.makeFunc fn fs cs,ty,pos,aft,none⟩).run P w= .ok (.value u) w:=by
 subst hu;have h1:(fs.toList.map (ev n J L)).toArray=fs.map (ev n J L):=by apply Array.ext';simp
 have h2:(cs.toList.map (ev n J L)).toArray=cs.map (ev n J L):=by apply Array.ext';simp
 rw[h1,h2]
 simp[execOp,Instr.makeFunc]
theorem r_lnV{α:Type}{r:Rp α}{l:List α}{v:Value}{e:TypeId}{T':TP}{w1:World}(hx:ev n J L x=v)(h:SlV r T' w1 v l)(ht:P.underlying t=some (.slice e)):
 (execOp (ev n J L) ⟨some d,.call ⟨.builtin .len,#[x],#[t]⟩,ty,pos,aft,none⟩).run P w= .ok (.value (.int .i64 (l.length:Int))) w:=by
 obtain⟨a,c,rfl⟩:=h.shape;exact r_ln hx ht
theorem r_slR{α:Type}{r:Rp α}{ad a':OA}{l u:List α}{cap sz c':Nat}{e:TypeId}{lo hi:Option Operand}{a b:Int}{T1:TP}{w1:World}
 (hx:ev n J L x= .slice ad l.length cap) (h:SlR r T1 w1 (.slice ad l.length cap) l) (hlo:oev n J L lo 0 a) (hhi:oev n J L hi l.length b) (hs:sub l a b=some u)
 (ht:P.underlying t=some (.slice e)) (hz:∀w,(sizeOf e).run P w= .ok sz w) (hr:r.sz=sz)
 (he:Value.slice (if cap=a.toNat then ad else ad.map (·.add (a.toNat*r.sz))) (b.toNat-a.toNat) (cap-a.toNat)= .slice a' u.length c'):
 (execOp (ev n J L) ⟨some d,.slice t x lo hi none,ty,pos,aft,none⟩).run P w= .ok (.value (.slice a' u.length c')) w:=by
 subst hr;obtain⟨h0,h1,h2,_⟩:=Z1s hs
 have hc:l.length<=cap:=by
  obtain⟨_,_,hv,h5,_⟩:=h;cases hv;exact h5
 have hr:=r_sl (w:=w) (P:=P) (d:=d) (ty:=ty) (pos:=pos) (aft:=aft) hx hlo hhi h0 h1 h2 hc ht hz;rw[he]at hr;exact hr
theorem X6b{o:BinOp}{a:OA}{u:Value}:eqGuard o t x y (.pointer a) u=pure ():=by cases o<;>rfl
theorem eqg_sl{o:BinOp}{a:OA}{l c:Nat}{u:Value}:eqGuard o t x y (.slice a l c) u=pure ():=by cases o<;>rfl
theorem Y7j{e:TypeId}(ht:P.underlying t=some (.pointer e)):P.underlying t=some (.pointer (P.pointee t)):=by
 unfold Program.pointee;rw[ht]
theorem r_pne{a:OA}{e:TypeId}{r:Bool}(hx:ev n J L x= .pointer a)(hy:ev n J L y= .pointer none)(hr:a.isNone=r)(ht:P.underlying t=some (.pointer e)):
 (execOp (ev n J L) ⟨some d,.binOp .eql t x y t2,ty,pos,aft,none⟩).run P w= .ok (.value (.bool r)) w:=by
 subst hr
 simp[execOp,hx,hy,X6b,run_eql_pointer_nil w t a (Y7j ht)]
theorem Y7a{a:OA}{e:TypeId}{r:Bool}(hx:ev n J L x= .pointer a)(hy:ev n J L y= .pointer none)(hr:(!a.isNone)=r)(ht:P.underlying t=some (.pointer e)):
 (execOp (ev n J L) ⟨some d,.binOp .neq t x y t2,ty,pos,aft,none⟩).run P w= .ok (.value (.bool r)) w:=by
 subst hr
 simp[execOp,hx,hy,X6b,run_neq_pointer_nil w t a (Y7j ht)]

theorem r_cvs{l:List Int}{v:Value}{t1 t3 e:TypeId}(hx:ev n J L x=v)(h:∃T',SlV (N1 .u8) T' w v l)(hs:P.underlying t1=some (.slice e))(he:P.underlying e=some (.int .u8))(hd:P.underlying t3=some .string):
 (execOp (ev n J L) ⟨some d,.convert t1 t3 x,ty,pos,aft,none⟩).run P w= .ok (.value (.string ⟨(Y1i l).toArray⟩)) w:=by
 obtain⟨T',a,cap,hv,h5,h6,h7⟩:=h
 have hr:(convert t1 t3 v).run P w= .ok (.string ⟨(Y1i l).toArray⟩) w:=by
  rcases h7 with rfl|⟨b,off,rfl,hc⟩
  . rw[hv];rw[run_convert_bytes_string w t1 t3 e _ _ _ hs he hd];cases a<;>simp[Conv.bytesToString,loadCells,Y1i]
    all_goals rfl
  . rw[hv,run_convert_bytes_arg w t1 e hs he b off l.length cap l rfl (fun i hi=>?_) t3 hd]
    . rfl
    . obtain⟨cs,hr,hcs⟩:=hc i l[i] (kM hi);have hcs1:=hcs 0 (.int .u8 l[i]) (by have:cs=[.int .u8 l[i]]:=hr;rw[this];rfl);have hsz:(N1 .u8).sz=1:=rfl;rw[hsz,Nat.mul_one,Nat.add_zero]at hcs1;rw[hcs1]
      simp[List.getD,hi]
 simp only[execOp,hx,Sem.run_bind,hr,kT,Sem.run_pure]
theorem QC.slv{α:Type}{r:Rp α}{v:Value}{l:List α}(hq:QC T w0 w)(h:SlV r T w0 v l):∃T',SlV r T' w v l:=by
 have hq':=hq;obtain⟨T',hi⟩:=hq;obtain⟨a,cap,hv,h5,h6,h7⟩:=h;refine⟨T',a,cap,hv,h5,h6,?_⟩
 rcases h7 with rfl|⟨b,off,rfl,hc⟩
 . exact .inl rfl
 . refine .inr ⟨b,off,rfl,fun i x hx=>?_⟩;obtain⟨cs,hr,hcs⟩:=hc i x hx;exact⟨cs,r.mono hi.imm hr,hq'.cellsAt hcs⟩
theorem cvB{s:Aa}{t1 t3 e:TypeId}(hS:Sep g T w G)(hx:ev n J L x= .string ⟨s.toArray⟩)(hs:P.underlying t1=some .string)(hd:P.underlying t3=some (.slice e))(he:P.underlying e=some (.int .u8))(hl:s.length<=8589934592)
 (k:∀T' w' a c,Im T w T' w'->Sep g T' w' G->SlR (N1 .u8) T' w' (.slice a (N0 s).length c) (N0 s)->KK (env n J ((d,.slice a (N0 s).length c)::L)) w'):
 Oper.wp P ⟨some d,.convert t1 t3 x,ty,pos,aft,none⟩ (env n J L) w KK Q:=by
 have hrun:=Lib.run_convert_string_bytes (P:=P) w t1 t3 e (ByteArray.mk s.toArray) hs hd he;have hsz:(ByteArray.mk s.toArray).size=(N0 s).length:=by simp[ByteArray.size,N0]
 have hss:(ByteArray.mk s.toArray).size=s.length:=by simp[ByteArray.size]
 have hml:s.length<=maxLen:=by simp only[maxLen];omega
 have inn:Inn w.heap.size noB T w (fun k=>T k\/k=w.heap.size) (Lib.bytesWorld w e ⟨s.toArray⟩):=by
  refine⟨⟨rfl,rfl,rfl,by rw[Lib.bytesWorld_size];omega,fun k hk _=>Lib.bytesWorld_at_old w e _ k hk⟩,fun k hk=>⟨.inl hk,Lib.bytesWorld_at_old w e _ k (hS.lt k hk)⟩,fun k hk ht=>ht.elim id (fun h=>absurd hk (by omega)),fun k ht=>?_,by rw[Lib.bytesWorld_size];omega⟩;rw[Lib.bytesWorld_size]
  rcases ht with ht|ht
  . have:=hS.lt k ht;omega
  . omega
 refine Y2h (w':=Lib.bytesWorld w e ⟨s.toArray⟩) (v:= .slice (some ⟨w.heap.size,0,none⟩) (N0 s).length (grownCap w (ByteArray.mk s.toArray).size 0 e)) ?_ (k _ _ _ _ inn.imm (hS.keep inn (fun _ h=>h)) ?_)
 . rw[<-hsz]
   simp only[execOp,hx,Sem.run_bind,hrun,kT,Sem.run_pure]
 . refine⟨_,_,rfl,?_,?_,?_⟩
   . rw[<-hsz];exact grownCap_ge w _ 0 e
   . exact grownCap_le_maxLen w _ 0 e (by rw[hss];exact hml)
   . refine .inr ⟨w.heap.size,0,rfl,.inr rfl,fun i x hi=>⟨[.int .u8 x],rfl,fun j u hj=>?_⟩⟩;cases j with
     |succ j=>simp at hj
     |zero=>
      simp at hj
      subst hj
      have hil:i<s.length:=by
       rcases Nat.lt_or_ge i s.length with h|h
       . exact h
       . rw[kU (by simp[N0];omega)]at hi;cases hi
      have:=Lib.bytesWorld_cell w e ⟨s.toArray⟩ i (by rw[hss];exact hil);have hsz1:(N1 .u8).sz=1:=rfl;rw[hsz1,Nat.mul_one,Nat.zero_add,Nat.add_zero,this]
      simp[N0,hil]at hi
      simp[List.getD,hil,<-hi]

theorem bs0S{α:Type}(r:Rp α){e:TypeId}{sz:Nat}(hS:Sep g T w G)(ht:P.underlying t=some (.slice e))(hs:∀w,(sizeOf e).run P w= .ok sz w)
 (k:∀w' a m c,Im T w T w'->Sep g T w' (F5 r e (.slice a m c) []::G)->KK (env n J ((d,.slice a m c)::L)) w'):
 Oper.wp P ⟨some d,.buildSlice t 0 #[],ty,pos,aft,none⟩ (env n J L) w KK Q:=by
 have inn:=Z2y hS.lt (.cells #[] e) (w:=w);have hnew:(w.alloc (.cells #[] e)).heap[w.heap.size]?=some (.cells #[] e (0,0)):=heap_alloc_new w _;refine Y2h (w':=w.alloc (.cells #[] e)) (v:= .slice (some ⟨w.heap.size,0,none⟩) 0 0) ?_ (k _ _ _ _ inn.imm (hS.cons inn (fun _ h=>h) (F:=(·=w.heap.size)) ⟨⟨[],rfl,⟨by simp,.inr ⟨w.heap.size,0,#[],rfl,kX _,hnew,qD _,by simp[maxLen],by simp,by simp⟩⟩,fun i cs x hc hx=>by simp at hc⟩,fun k=>?_⟩ (fun k hk=>?_)))
 . have h0:∀(f:Nat->Value),Array.map f (Array.range 0)=#[]:=fun f=>Array.ext (by simp) (fun i h1 h2=>by simp at h2)
   simp[execOp,Instr.buildSlice,run_underlying ht,hs,Instr.fill,h0]
   rfl
 . simp[Value.ownBlock,eq_comm]
 . subst hk;exact⟨qD _,Y0t hS.lt⟩
theorem SlR.nilOr{α:Type}{r:Rp α}{l:List α}{a:OA}{c:Nat}(h:SlR r T w (.slice a l.length c) l):(a=none/\l=[])\/a.isNone=false:=by
 obtain⟨a',cap,hv,h5,h6,h7⟩:=h;cases hv
 rcases h7 with rfl|⟨b,off,rfl,_⟩
 . cases a with
   |none=>exact .inl ⟨rfl,rfl⟩
   |some a=>exact .inr rfl
 . exact .inr rfl
theorem r_sne{a:OA}{m c:Nat}{e:TypeId}{r:Bool}(hx:ev n J L x= .slice a m c)(hy:ev n J L y= .slice none 0 0)(hr:a.isNone=r)(ht:P.underlying t=some (.slice e)):
 (execOp (ev n J L) ⟨some d,.binOp .eql t x y t2,ty,pos,aft,none⟩).run P w= .ok (.value (.bool r)) w:=by
 subst hr
 simp[execOp,hx,hy,eqg_sl,run_eql_slice_nil w t e a m c ht]
end
section
variable{P:Program}{ops:Array Oper}{Q:Ac}{rest:Ah}{n:NF}{J:Nat->Value}{L:List (Nat×Value)}{w w' w0 g:World}
 {d:Nat} {ty:TypeId} {pos:String} {aft:Ag} {op:Op} {v:Value} {x y c:Operand} {t t2:TypeId} {T:TP} {KK:Act->World->Prop} {Qa:Act->Prop} {C:World->Prop} {G:List X1} {q p i:Nat}
 {K V:Type} [DecidableEq K] {kd:TypeDesc} {enk:K->Value} {en:V->Value}

theorem mkM{K V:Type}(enk:K->Value)(en:V->Value)(hS:Sep g T w G)(k:∀w' r,Im T w T w'->Sep g T w' (Y3c enk en (.map r) (some [])::G)->KK (env n J ((d,.map r)::L)) w'):
 Oper.wp P ⟨some d,.makeMap t none,ty,pos,aft,none⟩ (env n J L) w KK Q:=
 mk hS.lt fun w' b i hm ge nt=>k w' _ i.imm (hS.cons i (fun _ h=>h) (F:=(·=b)) (.inr ⟨b,[],rfl,rfl,hm _ _ _ _,fun k=>Iff.rfl⟩) fun k hk=>by subst hk;exact⟨ge,nt⟩)
theorem muM{kt et:TypeId}{k:K}{u:V}{m:Option (List (K×V))}{l:List (K×V)}(hS:Sep g T w G)(hi:AtR G q (Y3c enk en v m))(hm:m=some l)(hx:ev n J L x=v)(hy:ev n J L y=enk k)(hc:ev n J L c=en u)
 (hk:Y2t kd enk) (ht:P.underlying t=some (.map kt et)) (hu:P.underlying kt=some kd)
 (k':∀w',Im T w T w'->Sep g T w' (A9 G q (Y3c enk en v (some (Q8w l k u))))->KK (env n J L) w'):
 Oper.wp P ⟨none,.mapUpdate t x y c,ty,pos,aft,none⟩ (env n J L) w KK Q:=by
 obtain⟨F,hF,hn⟩:=hS.getA hi
 rcases hF with⟨_,h2,_⟩|⟨b,l',h1,h2,h3,h4⟩
 . rw[hm]at h2;cases h2
 . rw[hm]at h2;cases h2;refine mu (hx.trans h1) hy hc h3 hk ht hu (hn b ((h4 b).2 rfl)) hS.lt fun w' inn hm'=>k' w' inn.imm (hS.put q hi.lt inn fun F' hF' hn'=>?_);rw[hi.at_]at hF'
   rcases hF' with⟨h6,_,_⟩|⟨b',l2,h6,h7,h8,h9⟩
   . rw[h6]at h1;cases h1
   . rw[h6]at h1;cases h1;exact⟨fun k hk=>hk▸(h9 _).2 rfl,F',.inr ⟨_,_,h6,rfl,hm',h9⟩,fun k hk=>⟨.inl hk,hn' k hk⟩⟩

theorem r_lkM0{kt et:TypeId}{z:Value}{kk:K}{m:Option (List (K×V))}{ok:Bool}(hx:ev n J L x=v)(hy:ev n J L y=enk kk)(hA:∃F,(Y3c enk en v m).P T w F/\∀k,F k->¬T k)(hk:Y2t kd enk)(ht:P.underlying t=some (.map kt et))(hu:P.underlying kt=some kd)
 (hz:∀w,(zeroValue et).run P w= .ok z w):(execOp (ev n J L) ⟨some d,.lookup t x y ok,ty,pos,aft,none⟩).run P w= .ok (.value (if ok then .tuple #[((P7 m kk).map en).getD z,.bool (P7 m kk).isSome]else((P7 m kk).map en).getD z)) w:=by
 obtain⟨F,hF,hn⟩:=hA
 rcases hF with⟨h1,h2,h3⟩|⟨b,l',h1,h2,h3,h4⟩
 . subst h2
   have:(Instr.lookup t (.map none) (enk kk) ok).run P w= .ok (if ok then .tuple #[z,.bool false]else z) w:=by
    unfold Instr.lookup;have hf:(Instr.findKey kt (enk kk) []).run P w= .ok none w:=Z3j hu (by rfl);cases ok<;>simp[run_underlying ht,hk.chk P w kt true kk hu,hz,hf]
   simp only[execOp,hx,hy,h1,Sem.run_bind,this,kT,Sem.run_pure,P7]
   cases ok<;>rfl
 . subst h2;have:=X4e (P:=P) (w:=w) (ok:=ok) h3 hk ht hu hz kk
   simp only[execOp,hx,hy,h1,Sem.run_bind,this,kT,Sem.run_pure,P7]
   cases ok<;>rfl
theorem r_lkM{kt et:TypeId}{z:Value}{kk:K}{u:V}{m:Option (List (K×V))}(hx:ev n J L x=v)(hy:ev n J L y=enk kk)(hA:∃F,(Y3c enk en v m).P T w F/\∀k,F k->¬T k)(hk:Y2t kd enk)(ht:P.underlying t=some (.map kt et))(hu:P.underlying kt=some kd)
 (hz:∀w,(zeroValue et).run P w= .ok z w) (hz':z=en u):(execOp (ev n J L) ⟨some d,.lookup t x y false,ty,pos,aft,none⟩).run P w= .ok (.value (en ((P7 m kk).getD u))) w:=by
 have h:=r_lkM0 (d:=d) (ty:=ty) (pos:=pos) (aft:=aft) (ok:=false) hx hy hA hk ht hu hz;rw[h];subst hz';cases P7 m kk<;>rfl
theorem Z7r{kt et:TypeId}{z:Value}{kk:K}{u:V}{m:Option (List (K×V))}(hx:ev n J L x=v)(hy:ev n J L y=enk kk)(hA:∃F,(Y3c enk en v m).P T w F/\∀k,F k->¬T k)(hk:Y2t kd enk)(ht:P.underlying t=some (.map kt et))(hu:P.underlying kt=some kd)
 (hz:∀w,(zeroValue et).run P w= .ok z w) (hz':z=en u):(execOp (ev n J L) ⟨some d,.lookup t x y true,ty,pos,aft,none⟩).run P w= .ok (.value (.tuple #[en ((P7 m kk).getD u),.bool (P7 m kk).isSome])) w:=by
 have h:=r_lkM0 (d:=d) (ty:=ty) (pos:=pos) (aft:=aft) (ok:=true) hx hy hA hk ht hu hz;rw[h];subst hz';cases P7 m kk<;>rfl
end
section
variable{P:Program}{ops:Array Oper}{Q:Ac}{rest:Ah}{n:NF}{J:Nat->Value}{L:List (Nat×Value)}{w w' w0 g:World}
 {d:Nat} {ty:TypeId} {pos:String} {aft:Ag} {op:Op} {v:Value} {x y c:Operand} {t t2:TypeId} {T:TP} {KK:Act->World->Prop} {Qa:Act->Prop} {C:World->Prop} {G:List X1} {q p i:Nat}
 {K V:Type} {enk:K->Value} {en:V->Value}
theorem r_lnM{kt et:TypeId}{m:Option (List (K×V))}(hx:ev n J L x=v)(hA:∃F,(Y3c enk en v m).P T w F/\∀k,F k->¬T k)(ht:P.underlying t=some (.map kt et)):
 (execOp (ev n J L) ⟨some d,.call ⟨.builtin .len,#[x],#[t]⟩,ty,pos,aft,none⟩).run P w= .ok (.value (.int .i64 (Z4y m:Int))) w:=by
 obtain⟨F,hF,hn⟩:=hA
 have hr:(Builtin.len_ #[t] ty #[v]).run P w= .ok (.int .i64 (Z4y m:Int)) w:=by
  rcases hF with⟨h1,h2,h3⟩|⟨b,l',h1,h2,h3,h4⟩
  . subst h2;rw[h1]
    simp[Builtin.len_,run_underlying ht,goInt,Z4y]
  . subst h2;rw[h1];obtain⟨es,clock,hg,he⟩:=h3
    have:es.size=l'.length:=by
     have:=congrArg List.length he
     simpa using this
    simp[Builtin.len_,run_underlying ht,goInt,Z4y,Z4w hg,this]
 simp only[execOp,resolve,invoke,builtin,Sem.run_bind,Sem.run_pure,kT,List.map_toArray,List.map_cons,List.map_nil,hx,hr]
end
def HoC{α:Type}(r:Rp α)(e:TypeId)(T:TP)(w:World)(v:Value)(l:List α)(i:Nat)(cs:Ab):Prop:=
 ∃css:List (Ab),css.length=l.length/\w.ownsRow 0 e r.sz v l.length css.flatten/\css[i]?=some cs/\cs.length=r.sz/\(∀(j:Nat)(c:Ab)(x:α),j≠i->css[j]?=some c->l[j]?=some x->r.rp T w c x)

theorem HoC.sizes{α:Type}{r:Rp α}{e:TypeId}{T:TP}{w:World}{v:Value}{l:List α}{i:Nat}{cs:Ab}{css:List (Ab)}(h1:css.length=l.length)(h3:css[i]?=some cs)(h4:cs.length=r.sz)
 (h5:∀(j:Nat)(c:Ab)(x:α),j≠i->css[j]?=some c->l[j]?=some x->r.rp T w c x):∀c∈css,c.length=r.sz:=by
 intro c hc;obtain⟨j,hj,he⟩:=List.getElem_of_mem hc
 by_cases hji:j=i
 . subst hji;rw[kM hj,he]at h3;cases h3;exact h4
 . exact r.len (h5 j c l[j] hji (by rw[kM hj,he]) (kM (by omega)))

def Y4j{α:Type}(r:Rp α)(e:TypeId)(v:Value)(l:List α)(i:Nat)(cs:Ab):X1 where
 P:=fun T w F=>HoC r e T w v l i cs/\∀k,F k↔v.ownBlock=some k
 loc:=fun{T T' w w' F}⟨h,hF⟩ hT hs=>by
  obtain⟨css,h1,h2,h3,h4,h5⟩:=h
  refine⟨⟨css,h1,⟨h2.1,?_⟩,h3,h4,fun j c x hj hc hx=>r.mono (fun k hk=>⟨hT k hk,hs k (.inl hk)⟩) (h5 j c x hj hc hx)⟩,hF⟩
  rcases h2.2 with hn|⟨g,cap,cur,hv,hb,hgg,rest⟩
  . exact .inl hn
  . exact .inr ⟨g,cap,cur,hv,hb,(hs g (.inr ((hF g).2 (by rw[hv];rfl)))).trans hgg,rest⟩
 bnd:=fun{T w F}⟨h,hF⟩ k hk=>by
  obtain⟨css,h1,h2,h3⟩:=h
  have hk:=(hF k).1 hk
  rcases h2.2 with⟨hn,_⟩|⟨g,cap,cur,hv,hb,hgg,rest⟩
  . rw[hn]at hk;cases hk
  . rw[hv]at hk;cases hk;exact hlt hgg

theorem X4p{α:Type}{r:Rp α}{e:TypeId}{v:Value}{l:List α}{i:Int}{b k off n cap:Nat}(hv:v= .slice (some ⟨b,k,none⟩) n cap)(he:off=k+i.toNat*r.sz):Ln b off (Y4j r e v l i.toNat) where
 rd:=fun{T w F cs}⟨⟨css,h1,h2,h3,h4,h5⟩,hF⟩ j u hj=>by
  have h2':=h2
  rcases h2.2 with⟨hz,_⟩|⟨g,cap',cur,hv',_⟩
  . rw[hv]at hz;cases hz
  . rw[hv]at hv'
    cases hv'
    have hs:=HoC.sizes (e:=e) (v:=v) h1 h3 h4 h5
    have hf:=Z5v hs h3 hj
    have:=h2'.cells (g:=b) (by rw[hv];rfl) _ _ hf
    rw[he,Nat.zero_add]
    simpa[Addr.add_lit]using this
 wr:=fun{T w F cs}⟨⟨css,h1,h2,h3,h4,h5⟩,hF⟩ hn=>by
  have hs:=HoC.sizes (e:=e) (v:=v) h1 h3 h4 h5
  have hil:i.toNat<css.length:=by
   rcases Nat.lt_or_ge i.toNat css.length with h|h
   . exact h
   . rw[kU h]at h3;cases h3
  rcases h2.2 with⟨hz,_⟩|⟨g,cap',cur,hv',hb,hgg,hnc,hmx,hcur,htake⟩
  . rw[hv]at hz;cases hz
  . have hv2:=hv;rw[hv']at hv2;cases hv2;have hrow:i.toNat*r.sz+r.sz<=l.length*r.sz:=by rw[<-Nat.succ_mul];exact Nat.mul_le_mul_right _ (by omega)
    have hcapr:l.length*r.sz<=cap*r.sz:=Nat.mul_le_mul_right _ hnc;rw[he,Nat.zero_add];refine⟨cur,e,hgg,(hF b).2 (by rw[hv];rfl),by omega,fun j new hj hone=>?_⟩;have hj':j+new.length<=r.sz:=by omega
    refine⟨⟨css.set i.toNat (Q0e cs j new),by simp[h1],⟨?_,.inr ⟨b,cap,_,hv',hb,setRow_heap w b _ _ e (0,0) hgg,hnc,hmx,?_,?_⟩⟩,by simp[hil],by rw[Q8r hj,h4],fun m c x hm hc hx=>?_⟩,hF⟩
    . rw[Z5u hs h3 hj',Q8r (by rw[h2.1];omega),h2.1]
    . simp only[List.size_toArray]
      rw[Q8r (by simp;omega)]
      simpa using hcur
    . rw[Z5u hs h3 hj',<-htake];apply List.ext_getElem?;intro m;have htl:(List.take (l.length*r.sz) cur.toList).length=l.length*r.sz:=by simp;omega
      rw[Q8s (by rw[htl];omega),List.getElem?_take,Q8s (by simp;omega),List.getElem?_take]
      by_cases hm:m<l.length*r.sz
      . simp only[hm,if_true]
      . simp only[hm,if_false]
        rw[if_neg (by omega),if_neg (by omega)]
    . rw[List.getElem?_set_ne (fun h=>hm h.symm)]at hc;exact r.mono (fun k hk=>⟨hk,setRow_other w b k _ (fun e=>hn b ((hF b).2 (by rw[hv];rfl)) (e▸hk))⟩) (h5 m c x hm hc hx)

section
variable{g:World}{T T':TP}{w w':World}{G:List X1}{q:Nat}
theorem Sep.focus{α:Type}{r:Rp α}{e:TypeId}{v:Value}{l:List α}{i:Int}{u:α}(hS:Sep g T w G)(hi:AtR G q (F5 r e v l))(hu:idx l i=some u):∃cs,r.rp T w cs u/\Sep g T w (A9 G q (Y4j r e v l i.toNat cs)):=by
 obtain⟨h0,h1,h2⟩:=Q2d hu;obtain⟨F,⟨⟨css,c1,c2,c3⟩,hF⟩,hn⟩:=hS.getA hi;have hcs:css[i.toNat]?=some css[i.toNat]:=kM (by omega);refine⟨css[i.toNat],c3 _ _ _ hcs h2,hS.put q hi.lt (Inn.refl hS.lt (qD _):Inn w.heap.size noB T w T w) fun F' hF' hn'=>⟨fun k hk=>hk.elim,F',?_,fun k hk=>⟨.inl hk,hn' k hk⟩⟩⟩;rw[hi.at_]at hF';exact⟨⟨css,c1,c2,hcs,r.len (c3 _ _ _ hcs h2),fun j c x _ hc hx=>c3 j c x hc hx⟩,hF'.2⟩
theorem Sep.unfocus{α:Type}{r:Rp α}{e:TypeId}{v:Value}{l:List α}{i:Nat}{u:α}{cs:Ab}(hS:Sep g T w G)(hi:AtR G q (Y4j r e v l i cs))(hr:r.rp T w cs u):Sep g T w (A9 G q (F5 r e v (l.set i u))):=by
 refine hS.imp q hi.lt fun F hF=>?_;rw[hi.at_]at hF;obtain⟨⟨css,c1,c2,c3,c4,c5⟩,hF⟩:=hF;refine⟨⟨css,by simp[c1],by simpa using c2,fun j c x hc hx=>?_⟩,hF⟩
 by_cases hj:j=i
 . subst hj;rw[c3]at hc;cases hc;rw[List.getElem?_set_self']at hx;cases hl:l[j]?with
   |none=>rw[hl]at hx;cases hx
   |some y=>rw[hl]at hx;cases hx;exact hr
 . rw[List.getElem?_set_ne (fun h=>hj h.symm)]at hx;exact c5 j c x hj hc hx
end
section
variable{P:Program}{l:Ah}{Q:Ac}{fl:List Nat}

structure Y9z(l:Ah)(x y:Nat):Prop where
 ne:x≠y
 no:∀o,l[x]?=some o->∀e∈o.after,Region.binds .any e=true->e.on≠y
 ap:Pre l x y\/∀ox oy,l[x]?=some ox->l[y]?=some oy->ox.apart l.toArray oy=true

def Z0m(l:Ah)(fl:List Nat):List Nat->Prop
 |[]=>True
 |x::r=>(∀y∈r,Y9z l x y)/\(fl.getD x 2=1->(∀y∈x::r,clobB l x y=false)\/(∀z∈r,nzB fl z=true->Pre l x z))/\(∀o,l[x]?=some o->∀e∈o.after,Region.binds .any e=true->e.on≠x)/\Z0m l fl r

theorem Z0m.sub{s ord:List Nat}(hs:s.Sublist ord)(h:Z0m l fl ord):Z0m l fl s:=by
 induction hs with
 |slnil=>trivial
 |cons a _ ih=>exact ih h.2.2.2
 |cons_cons a hs ih=>
  refine⟨fun y hy=>h.1 y (hs.subset hy),fun h1=>?_,h.2.2.1,ih h.2.2.2⟩
  rcases h.2.1 h1 with h2|h2
  . exact .inl fun y hy=>h2 y (by
     rcases qZ.1 hy with rfl|hy
     . simp
     . exact List.mem_cons_of_mem _ (hs.subset hy))
  . exact .inr fun y hy=>h2 y (hs.subset hy)
theorem Z0m.pair{A B:List Nat}{x:Nat}(h:Z0m l fl (A++x::B)):(∀y∈A,Y9z l y x)/\(∀y∈B,Y9z l x y):=by
 induction A with
 |nil=>exact⟨fun y hy=>by simp at hy,h.1⟩
 |cons a A ih=>
  have:=ih h.2.2.2
  exact⟨fun y hy=>by
   rcases qZ.1 hy with rfl|hy
   . exact h.1 x (by simp)
   . exact this.1 y hy,this.2⟩
theorem Z0m.tail{A R R':List Nat}(h:Z0m l fl (A++R))(hs:∀y∈R',y∈R)(h':Z0m l fl R'):Z0m l fl (A++R'):=by
 induction A with
 |nil=>exact h'
 |cons a A ih=>
  have hm:∀y∈A++R',y∈A++R:=fun y hy=>by
   rcases jQ.1 hy with hy|hy
   . exact List.mem_append_left _ hy
   . exact List.mem_append_right _ (hs y hy)
  refine⟨fun y hy=>h.1 y (hm y hy),fun h1=>?_,h.2.2.1,ih h.2.2.2⟩
  rcases h.2.1 h1 with h2|h2
  . refine .inl fun y hy=>h2 y ?_
    rcases qZ.1 hy with rfl|hy
    . simp
    . exact List.mem_cons_of_mem _ (hm y hy)
  . exact .inr fun y hy=>h2 y (hm y hy)
def Q1o(P:Program)(l:Ah)(fl:List Nat)(Q:Ac):Nat->List (Nat×Value)->List Nat->Act->World->Prop
 |0,_,R,a,w=>R=[]/\Q .normal a w
 |_+1,_,[],a,w=>Q .normal a w
 |n+1,pd,i::is,a,w=>∃o,l[i]?=some o/\match Q7z l o a with
  |false=>∃R',(∀y,y∈R'↔y∈is)/\R'.length=is.length/\Z0m l fl R'/\Q1o P l fl Q n pd R' (a.put o.dst undef) w
  |true=>match fl.getD i 2 with
   |0=>∃v,(∀w,(execOp a.eval o).run P w= .ok (.value v) w)/\Q1o P l fl Q n pd is (a.put o.dst v) w
   |1=>∃v,(execOp a.eval o).run P w= .ok (.value v) w/\Q1o P l fl Q n ((i,v)::pd) is (a.put o.dst v) w
   |_=>(∀y∈is,nzB fl y=false->∃z∈i::is,nzB fl z=true/\Pre l z y)/\
    ∀j∈i::is,nzB fl j=true->(∃k∈i::is,Pre l k j)\/∃oj R',l[j]?=some oj/\(∀y,y∈R'↔y∈i::is/\y≠j)/\R'.length=is.length/\Z0m l fl R'/\
     match Q7z l oj a with
     |true=>oj.wpIn Fence.wide 0 P a w (fun a' w'=>Z2k P l (pd.filter fun p=>!((Q9w l).getD j 0).testBit p.1) a' w'/\Q1o P l fl Q n (pd.filter fun p=>!((Q9w l).getD j 0).testBit p.1) R' a' w') Q
     |false=>Q1o P l fl Q n pd R' (a.put oj.dst undef) w

theorem absorbT:∀(n:Nat)(R:List Nat)(D pd:List (Nat×Value))(a:Act)(w:World),R.length<=n->Z0m l fl (D.map (·.1)++R)->Z2l P l fl pd D a w->Q1o P l fl Q n pd R (Q0y l D a) w->
 ∃n' D' pd' R',R'.length<=n'/\(∀y,y∈D'.map (·.1)++R'↔y∈D.map (·.1)++R)/\D'.length+R'.length=D.length+R.length/\Z0m l fl (D'.map (·.1)++R')/\Z2l P l fl pd' D' a w/\Q1o P l fl Q n' pd' R' (Q0y l D' a) w/\
  (R'=[]\/∃r R'' o,R'=r::R''/\l[r]?=some o/\Q7z l o (Q0y l D' a)=true/\nzB fl r=true):=by
 intro n
 induction n with
 |zero=>
  intro R D pd a w hl hg h1 h2;have:R=[]:=List.eq_nil_of_length_eq_zero (by omega);subst this;exact⟨0,D,pd,[],qD _,fun _=>Iff.rfl,rfl,hg,h1,h2,.inl rfl⟩
 |succ n ih=>
  intro R D pd a w hl hg h1 h2;cases R with
  |nil=>exact⟨n+1,D,pd,[],kX _,fun _=>Iff.rfl,rfl,hg,h1,h2,.inl rfl⟩
  |cons i R=>
   have h2':=h2;unfold Q1o at h2;obtain⟨o,ho,h⟩:=h2;have hd:∀v,Z0y l (Q0y l D a) (i,v)=(Q0y l D a).put o.dst v:=fun v=>by simp[Z0y,Q2m,ho]
   have hl':R.length<=n:=by simpa using hl
   have hgi:∀v:Value,Z0m l fl ((D++[(i,v)]).map (·.1)++R):=fun v=>by simpa using hg
   cases hw:Q7z l o (Q0y l D a)with
   |false=>
    rw[hw]at h;obtain⟨R',hR1,hR2,hR3,h⟩:=h;have h1':=h1.snoc (p:=(i,undef)) ⟨o,ho,.inl ⟨hw,rfl⟩⟩;obtain⟨n',D',pd',R2,a1,a2,a3,a4,a5,a6,a7⟩:=ih R' (D++[(i,undef)]) pd a w (by omega) ((hgi undef).tail (fun y hy=>(hR1 y).1 hy) hR3) h1' (by rw[Z4l,hd];exact h);refine⟨n',D',pd',R2,a1,fun y=>(a2 y).trans ?_,?_,a4,a5,a6,a7⟩
    . simp[hR1 y]
    . simp at a3⊢;omega
   |true=>
    rw[hw]at h
    by_cases h0:fl.getD i 2=0
    . rw[h0]at h;obtain⟨v,hv,hk⟩:=h;have h1':=h1.snoc (p:=(i,v)) ⟨o,ho,.inr ⟨hw,hv w,.inl ⟨h0,hv⟩⟩⟩;obtain⟨n',D',pd',R2,a1,a2,a3,a4,a5,a6,a7⟩:=ih R (D++[(i,v)]) pd a w hl' (hgi v) h1' (by rw[Z4l,hd];exact hk);refine⟨n',D',pd',R2,a1,fun y=>(a2 y).trans ?_,?_,a4,a5,a6,a7⟩
      . simp
      . simp at a3⊢;omega
    . by_cases h10:fl.getD i 2=1
      . rw[h10]at h;obtain⟨v,hv,hk⟩:=h;have h1':=(h1.more (pd':=(i,v)::pd) (fun q hq=>by simp[hq])).snoc (p:=(i,v)) ⟨o,ho,.inr ⟨hw,hv,.inr ⟨h10,by simp⟩⟩⟩;obtain⟨n',D',pd',R2,a1,a2,a3,a4,a5,a6,a7⟩:=ih R (D++[(i,v)]) ((i,v)::pd) a w hl' (hgi v) h1' (by rw[Z4l,hd];exact hk);refine⟨n',D',pd',R2,a1,fun y=>(a2 y).trans ?_,?_,a4,a5,a6,a7⟩
        . simp
        . simp at a3⊢;omega
      . refine⟨n+1,D,pd,i::R,hl,fun _=>Iff.rfl,rfl,hg,h1,h2',.inr ⟨i,R,o,rfl,ho,hw,?_⟩⟩;unfold nzB
        split
        . rename_i h;exact absurd h h0
        . rename_i h;exact absurd h h10
        . rfl

theorem tr_any(hs:∀(j:Nat)(o:Oper) cs b,l[j]?=some o->o.op≠ .select cs b)(hcl:∀(j:Nat)(o:Oper),l[j]?=some o->∀e∈o.after,Region.binds .any e=true->e.on<l.length)
 (hQ:∀c a i v w,Q (.panic c) (Act.put a (Q2m l i) v) w->Q (.panic c) a w):
 ∀(fuel n:Nat)(listed:Array Bool)(a:Act)(w:World)(D pd:List (Nat×Value))(R:List Nat),R.length<=n->listed.size=l.length->
  (∀j,j<l.length->(listed.getD j false=false↔j∈D.map (·.1)++R))->(∀j∈D.map (·.1)++R,j<l.length)->
  (∀(j:Nat)(o:Oper),listed.getD j false=true->l[j]?=some o->∀e∈o.after,Region.binds .any e=true->listed.getD e.on false=true)->
  Z0m l fl (D.map (·.1)++R)->Z2l P l fl pd D a w->Q1o P l fl Q n pd R (Q0y l D a) w->D.length+R.length<=fuel->wpAnyIn Fence.wide 0 P .any l.toArray Q fuel listed a w:=by
 intro fuel
 induction fuel with
 |zero=>
  intro n listed a w D pd R hnn hn hin hlt hdn hg hp hw hf;have hD:D=[]:=List.eq_nil_of_length_eq_zero (by omega);have hR:R=[]:=List.eq_nil_of_length_eq_zero (by omega);subst hD;subst hR;refine⟨?_,by cases n with|zero=>exact hw.2|succ n=>exact hw⟩;cases hr:Region.ready .any l.toArray listed with
  |nil=>rfl
  |cons j js=>
   exfalso
   have hj:j∈Region.ready .any l.toArray listed:=by rw[hr];simp
   rw[mem_ready]at hj;obtain⟨h0,o,ho,_⟩:=hj;rw[List.getElem?_toArray]at ho;have hjl:j<l.length:=(List.getElem?_eq_some_iff.1 ho).1;rw[Y1s hn hjl]at h0;have:=(hin j hjl).1 h0
   simp at this
 |succ fuel ih=>
  intro n0 listed a w D0 pd0 R0 hnn0 hn hin0 hlt0 hdn hg0 hp0 hw0 hf;obtain⟨n,D,pd,R,hnn,hmem,hlen0,hg,hp,hw,hR⟩:=absorbT n0 R0 D0 pd0 a w hnn0 hg0 hp0 hw0;have hlen:D.length+R.length<=fuel+1:=by omega
  have hin:∀j,j<l.length->(listed.getD j false=false↔j∈D.map (·.1)++R):=fun j hj=>(hin0 j hj).trans (hmem j).symm;have hlt:∀j∈D.map (·.1)++R,j<l.length:=fun j hj=>hlt0 j ((hmem j).1 hj)
  clear hin0 hlt0 hmem hlen0 hg0 hp0 hw0 hf hnn0
  refine⟨fun hnil=>?_,fun j hj=>?_⟩
  · -- nothing may come up: all has been done
   cases hx:D.map (·.1)++R with
   |nil=>
    obtain⟨h1,h2⟩:=List.append_eq_nil_iff.1 hx;have hD:D=[]:=by simpa using h1
    subst hD;subst h2;cases n with
    |zero=>exact hw.2
    |succ n=>exact hw
   |cons x xs=>
    exfalso
    rw[hx]at hin hlt hg;have hxl:x<l.length:=hlt x (by simp);have hx0:listed.getD x false=false:=(hin x hxl).2 (by simp)
    have hmem:x∈Region.ready .any l.toArray listed:=by
     rw[mem_ready];refine⟨by rw[Y1s hn hxl];exact hx0,l[x],by rw[List.getElem?_toArray,kM hxl],fun e he hb=>?_⟩;have hel:=hcl x _ (kM hxl) e he hb;cases hh:listed.getD e.on false with
     |true=>rfl
     |false=>
      exfalso
      rcases qZ.1 ((hin e.on hel).1 hh)with h|h
      . exact hg.2.2.1 _ (kM hxl) e he hb h
      . exact(hg.1 _ h).no _ (kM hxl) e he hb rfl
    rw[hnil]at hmem;cases hmem
  . rw[mem_ready]at hj;obtain⟨h0,o,ho,hrd⟩:=hj;rw[List.getElem?_toArray]at ho;have hjl:j<l.length:=(List.getElem?_eq_some_iff.1 ho).1;rw[Y1s hn hjl]at h0
    have hpre:∀r k,Pre l r k->(k=j\/listed.getD k false=true)->listed.getD r false=true:=by
     intro r k hpr
     induction hpr with
     |base hk he hb=>
      rintro(rfl|hk2)
      . rw[ho]at hk;cases hk;exact hrd _ he hb
      . exact hdn _ _ hk2 hk _ he hb
     |step hk he hb _ ih2=>
      rintro(rfl|hk2)
      . rw[ho]at hk;cases hk;exact ih2 (.inr (hrd _ he hb))
      . exact ih2 (.inr (hdn _ _ hk2 hk _ he hb))
    have hun:∀i,i∈D.map (·.1)++R->¬Pre l i j:=fun i hi hpi=>by
     have h1:=(hin i (hlt i hi)).2 hi;rw[hpre i j hpi (.inl rfl)]at h1;cases h1
    have hn':(listed.setIfInBounds j true).size=l.length:=by simp[hn]
    have hset:∀i,(listed.setIfInBounds j true).getD i false=if i=j then true else listed.getD i false:=by
     intro i
     by_cases hij:i=j
     . subst hij;rw[if_pos rfl,Array.getD_eq_getD_getElem?,Array.getElem?_setIfInBounds_self_of_lt (by omega)]
       rfl
     . rw[if_neg hij,getD_set_ne false (Ne.symm hij)]
    have hdn':∀(i:Nat)(o:Oper),(listed.setIfInBounds j true).getD i false=true->l[i]?=some o->∀e∈o.after,Region.binds .any e=true->(listed.setIfInBounds j true).getD e.on false=true:=by
     intro i o2 hi ho2 e he hb;refine getD_set_true ?_;rw[hset]at hi
     split at hi
     . rename_i hij
       subst hij;rw[ho]at ho2;cases ho2;exact hrd e he hb
     . exact hdn i o2 hi ho2 e he hb
    have hjm:=(hin j hjl).1 h0
    have hap:∀i,i∈D.map (·.1)->Y9z l i j->∀oi,l[i]?=some oi->oi.apart l.toArray o=true:=fun i hi hpp oi hoi=>by
     rcases hpp.ap with h|h
     . exact absurd h (hun i (List.mem_append_left _ hi))
     . exact h oi o hoi ho
    have hgood:∀(D1:List (Nat×Value)),(∀p∈D1,Y9z l p.1 j/\p.1∈D.map (·.1))->
     (∀p∈D1,∀d,Q2m l p.1=some d->d∉o.looksAt l.toArray)/\(∀p∈D1,∀e,Q2m l p.1=some e->o.dst≠some e)/\(∀p∈D1,∀o2,l[p.1]?=some o2->∀e,o.dst=some e->e∉o2.looksAt l.toArray):=by
     intro D1 hD1;refine⟨fun p hp d hd=>?_,fun p hp d hd=>?_,fun p hp o2 ho2 d hd=>?_⟩
     . unfold Q2m at hd;cases hop:l[p.1]?with
       |none=>rw[hop]at hd;cases hd
       |some o2=>
        rw[hop]at hd;exact(Oper.apart_spec (hap p.1 (hD1 p hp).2 (hD1 p hp).1 o2 hop)).1 d hd
     . unfold Q2m at hd;cases hop:l[p.1]?with
       |none=>rw[hop]at hd;cases hd
       |some o2=>
        rw[hop]at hd;exact(Oper.apart_spec (hap p.1 (hD1 p hp).2 (hD1 p hp).1 o2 hop)).2.1 d hd
     . exact(Oper.apart_spec (hap p.1 (hD1 p hp).2 (hD1 p hp).1 o2 ho2)).2.2 d hd
    unfold wpOpIn;rw[List.getElem?_toArray,ho]
    simp only
    rcases jQ.1 hjm with hjD|hjR
    · -- one of those that wait
     obtain⟨⟨j',v⟩,hm,hj'⟩:=List.mem_map.1 hjD
     simp only at hj'
     subst hj';obtain⟨D1,D2,rfl⟩:=List.append_of_mem hm;have hgp:=hg;rw[jC,List.map_cons,qS,jX]at hgp;have hpr:=hgp.pair;have hA:=hgood D1 (fun p hp=>⟨hpr.1 p.1 (List.mem_map_of_mem hp),List.mem_map_of_mem (by simp[hp])⟩);obtain⟨hp1,hy,hp2⟩:=hp.split;obtain⟨o',ho',hy⟩:=hy;rw[ho]at ho';cases ho';have hev:=Z4p (D:=D1) (fun cs b=>hs _ o cs b ho) hA.1 a;rw[hev.2,hev.1]at hy;have hdst:Q2m l j'=o.dst:=by simp[Q2m,ho]
     have hfin:wpAnyIn Fence.wide 0 P .any l.toArray Q fuel (listed.setIfInBounds j' true) (a.put o.dst v) w:=by
      have hpp:Q0y l D1 (a.put o.dst v)=(Q0y l D1 a).put o.dst v:=Y0n (fun p hp e he=>hA.2.1 p hp e he) a v;have hpi:Z0y l (Q0y l D1 a) (j',v)=(Q0y l D1 a).put o.dst v:=by simp[Z0y,hdst]
      refine ih n _ _ _ (D1++D2) pd R hnn hn' ?_ ?_ hdn' ?_ ?_ ?_ ?_
      . intro i hi;rw[hset]
        by_cases hij:i=j'
        . subst hij;rw[if_pos rfl];refine⟨fun h=>(Bool.noConfusion h),fun h=>?_⟩
          exfalso
          simp only[jC,qS,jQ]at h
          rcases h with h|h|h
          . exact(hpr.1 i h).ne rfl
          . exact(hpr.2 i (List.mem_append_left _ h)).ne rfl
          . exact(hpr.2 i (List.mem_append_right _ h)).ne rfl
        . rw[if_neg hij,hin i hi]
          simp only[jC,List.map_cons,qS,jQ,qZ]
          constructor
          . rintro(h|(h|h)|h)
            . exact .inl h
            . exact absurd h hij
            . exact .inr (.inl h)
            . exact .inr (.inr h)
          . rintro(h|h|h)
            . exact .inl h
            . exact .inr (.inl (.inr h))
            . exact .inr (.inr h)
      . intro i hi;refine hlt i ?_
        simp only[jC,List.map_cons,qS,jQ,qZ]at hi⊢
        rcases hi with h|h|h
        . exact .inl h
        . exact .inr (.inl (.inr h))
        . exact .inr (.inr h)
      . refine hg.sub ?_;rw[jC,jC,List.map_cons];exact List.Sublist.append (List.Sublist.append (List.Sublist.refl _) (List.Sublist.cons _ (List.Sublist.refl _))) (List.Sublist.refl _)
      . refine Z2l.append (hp1.put hs hA.2.2 hA.2.1) ?_;rw[hpp];rw[hpi]at hp2;exact hp2
      . have:Q0y l (D1++(j',v)::D2) a=Q0y l (D1++D2) (a.put o.dst v):=by
         simp only[Q0y,List.foldl_append,List.foldl_cons]
         show Q0y l D2 (Z0y l (Q0y l D1 a) (j',v))=Q0y l D2 (Q0y l D1 (a.put o.dst v));rw[hpp,hpi]
        rw[<-this];exact hw
      . simp at hlen⊢
        omega
     rcases hy with⟨hy1,hy2⟩|⟨hy1,hy2,_⟩
     . have hb:Region.wanted o (yielded l.toArray a.tmps)=false:=hy1
       simp only at hy2
       subst hy2;rw[hb];exact⟨fun _ _=>trivial,hfin⟩
     . have hb:Region.wanted o (yielded l.toArray a.tmps)=true:=hy1;rw[hb];refine⟨fun _ _=>trivial,?_⟩;show o.uponIn _ _ _ _ _ _ ((o.semAt none a.eval).run P w);rw[Oper.semAt_none,hy2];exact hfin
    · -- one of those that write
     rcases hR with rfl|⟨r,R',o',rfl,ho',hwr,hnz⟩
     . cases hjR
     . cases n with
       |zero=>simp at hnn
       |succ n=>
       unfold Q1o at hw;obtain⟨o2,ho2,hw⟩:=hw;rw[ho']at ho2;cases ho2;rw[hwr]at hw
       have hw2:(∀y∈R',nzB fl y=false->∃z∈r::R',nzB fl z=true/\Pre l z y)/\
        ∀j∈r::R',nzB fl j=true->(∃k∈r::R',Pre l k j)\/∃oj R2,l[j]?=some oj/\(∀y,y∈R2↔y∈r::R'/\y≠j)/\R2.length=R'.length/\Z0m l fl R2/\
         match Q7z l oj (Q0y l D a)with
         |true=>oj.wpIn Fence.wide 0 P (Q0y l D a) w (fun a' w'=>Z2k P l (pd.filter fun p=>!((Q9w l).getD j 0).testBit p.1) a' w'/\Q1o P l fl Q n (pd.filter fun p=>!((Q9w l).getD j 0).testBit p.1) R2 a' w') Q
         |false=>Q1o P l fl Q n pd R2 ((Q0y l D a).put oj.dst undef) w:=by
        simp only at hw
        unfold nzB at hnz
        split at hw
        . rename_i h;rw[h]at hnz;cases hnz
        . rename_i h;rw[h]at hnz;cases hnz
        . exact hw
       have hjnz:nzB fl j=true:=by
        cases hc:nzB fl j with
        |true=>rfl
        |false=>
         exfalso
         rcases qZ.1 hjR with h|h
         . rw[h,hnz]at hc;cases hc
         . obtain⟨z,hz,_,hpz⟩:=hw2.1 j h hc;exact hun z (List.mem_append_right _ hz) hpz
       rcases hw2.2 j hjR hjnz with⟨k,hk,hpk⟩|⟨oj,R2,hoj,hR2,hR2l,hg2,hw3⟩
       . exact absurd hpk (hun k (List.mem_append_right _ hk))
       rw[ho]at hoj;cases hoj
       have hPj:∀p∈D,Y9z l p.1 j:=fun p hp=>by
        obtain⟨D1,D2,hD⟩:=List.append_of_mem hp;have hgp:=hg;rw[hD,jC,List.map_cons,qS,jX]at hgp;exact hgp.pair.2 j (List.mem_append_right _ hjR)
       have hA:=hgood D (fun p hp=>⟨hPj p hp,List.mem_map_of_mem hp⟩);have hev:=Z4p (D:=D) (fun cs b=>hs _ o cs b ho) hA.1 a;have hsub:∀y∈R2,y∈r::R':=fun y hy=>((hR2 y).1 hy).1;have hgD:Z0m l fl (D.map (·.1)++R2):=hg.tail hsub hg2;have hl2:R2.length<=n:=by simp at hnn;omega
       have hin':∀i,i<l.length->((listed.setIfInBounds j true).getD i false=false↔i∈D.map (·.1)++R2):=by
        intro i hi;rw[hset]
        by_cases hij:i=j
        . subst hij;rw[if_pos rfl];refine⟨fun h=>(Bool.noConfusion h),fun h=>?_⟩
          exfalso
          rcases jQ.1 h with h|h
          . obtain⟨p,hp,he⟩:=List.mem_map.1 h;exact(hPj p hp).ne he
          . exact((hR2 i).1 h).2 rfl
        . rw[if_neg hij,hin i hi]
          simp only[jQ,hR2 i]
          constructor
          . rintro(h|h)
            . exact .inl h
            . exact .inr ⟨h,hij⟩
          . rintro(h|h)
            . exact .inl h
            . exact .inr h.1
       have hlt':∀i∈D.map (·.1)++R2,i<l.length:=fun i hi=>hlt i (by
        rcases jQ.1 hi with h|h
        . exact List.mem_append_left _ h
        . exact List.mem_append_right _ (hsub i h))
       cases hwj:Q7z l o (Q0y l D a)with
       |false=>
        rw[hwj]at hw3;have hb:Region.wanted o (yielded l.toArray a.tmps)=false:=hev.2.symm.trans hwj;rw[hb];have hpp:Q0y l D (a.put o.dst undef)=(Q0y l D a).put o.dst undef:=Y0n (fun p hp e he=>hA.2.1 p hp e he) a undef;refine⟨fun _ _=>trivial,ih n _ _ _ D pd R2 hl2 hn' hin' hlt' hdn' hgD (hp.put hs hA.2.2 hA.2.1) (by rw[hpp];exact hw3) ?_⟩
        simp at hlen⊢;omega
       |true=>
        rw[hwj]at hw3;have hb:Region.wanted o (yielded l.toArray a.tmps)=true:=hev.2.symm.trans hwj;rw[hb];refine Oper.wpIn_mono ?_ (X1v (fun cs b=>hs _ o cs b ho) hA.1 hA.2.1 hQ hw3);rintro a' w' ⟨⟨u,ds,rfl⟩,hst,hw4⟩;refine ih n _ _ _ D (pd.filter fun p=>!((Q9w l).getD j 0).testBit p.1) R2 hl2 hn' hin' hlt' hdn' hgD ?_ hw4 (by simp at hlen⊢;omega);refine hp.after hs hA.2.2 hA.2.1 (fun p hp hpd=>?_) hst (fun D1 p D2 hD hl=>?_)
        . refine List.mem_filter.2 ⟨hpd,?_⟩;cases hb2:((Q9w l).getD j 0).testBit p.1 with
          |false=>rfl
          |true=>exact absurd (Z5y l _ _ hb2) (hun p.1 (List.mem_append_left _ (List.mem_map_of_mem hp)))
        . have hg2:=hg;rw[hD,jC,List.map_cons,qS,jX]at hg2;have hg3:Z0m l fl (p.1::(D2.map (·.1)++r::R')):=hg2.sub (List.sublist_append_right _ _)
          rcases hg3.2.1 hl with h|h
          . intro q hq;refine h q.1 ?_
            rcases qZ.1 hq with rfl|hq
            . simp
            . exact List.mem_cons_of_mem _ (List.mem_append_left _ (List.mem_map_of_mem hq))
          . exact absurd (h j (List.mem_append_right _ hjR) hjnz) (hun p.1 (List.mem_append_left _ (List.mem_map_of_mem (by rw[hD];simp))))

def Z7v(l:Ah)(fl an:List Nat):List Nat->Bool
 |[]=>true
 |x::r=>r.all (fun y=>pairB l an x y)&&
  ((!clobB l x x&&r.all (fun y=>!clobB l x y))||!Nat.beq (fl.getD x 2) 1||r.all (fun z=>!nzB fl z||(an.getD z 0).testBit x))&&selfB l x&&Z7v l fl an r
theorem Y7w:∀(ord:List Nat),Z7v l fl (Q9w l) ord=true->Z0m l fl ord:=by
 intro ord
 induction ord with
 |nil=>exact fun _=>trivial
 |cons x r ih=>
  intro h
  simp only[Z7v,qM,qH,List.all_eq_true,Bool.not_eq_true']at h
  obtain⟨⟨⟨h1,h2⟩,h4⟩,h3⟩:=h;refine⟨fun y hy=>?_,fun h1l=>?_,?_,ih h3⟩
  . have ha:=h1 y hy;unfold pairB at ha
    simp only[qM,Bool.not_eq_true']at ha
    obtain⟨hne,hm⟩:=ha
    split at hm
    . rename_i ox oy hx hy'
      simp only[qM,qH]at hm
      obtain⟨hm1,hm2⟩:=hm;refine⟨fun e=>by subst e;simp at hne,fun o ho e he hb'=>?_,?_⟩
      . rw[hx]at ho;cases ho;rw[Array.all_eq_true_iff_forall_mem]at hm1;have:=hm1 e he;rw[hb']at this;intro hh;rw[hh]at this
        simp at this
      . rcases hm2 with hm2|hm2
        . exact .inl (Z5y l _ _ hm2)
        . refine .inr fun ox' oy' hx' hy2=>?_;rw[hx]at hx';rw[hy']at hy2;cases hx';cases hy2;exact hm2
    . cases hm
  . rcases h2 with(h2|h2)|h2
    . refine .inl fun y hy=>?_
      rcases qZ.1 hy with rfl|hy
      . exact h2.1
      . exact h2.2 y hy
    . rw[h1l]at h2;cases h2
    . refine .inr fun z hz hn=>?_
      rcases h2 z hz with h|h
      . rw[h]at hn;cases hn
      . exact Z5y l _ _ h
  . intro o ho e he hb hh;unfold selfB at h4;rw[ho]at h4
    simp only at h4
    rw[Array.all_eq_true_iff_forall_mem]at h4;have:=h4 e he;rw[hb,hh]at this
    simp at this
def trB(l:Ah)(fl:List Nat)(ord:List Nat):Bool:=
 Nat.beq ord.length l.length&&ord.all (fun i=>Nat.blt i l.length)&&(qT l.length).all (fun i=>ord.contains i)&&Region.noSelect l.toArray&&Y6q l&&Z7v l fl (Q9w l) ord
theorem X2d{ord:List Nat}(hB:trB l fl ord=true)(hQ:∀c a i v w,Q (.panic c) (Act.put a (Q2m l i) v) w->Q (.panic c) a w){a:Act}{w:World}(h:Q1o P l fl Q ord.length [] ord a w):
 wpAnyIn Fence.wide 0 P .any l.toArray Q l.length (Array.replicate l.length false) a w:=by
 simp only[trB,qM,List.all_eq_true]at hB
 obtain⟨⟨⟨⟨⟨h1,h2⟩,h3⟩,h4⟩,h5⟩,h6⟩:=hB
 have hsel:∀(j:Nat)(o:Oper) cs b,l[j]?=some o->o.op≠ .select cs b:=by
  intro j o cs b ho hop;unfold Region.noSelect at h4;rw[Array.all_eq_true_iff_forall_mem]at h4;have:=h4 o (by simpa using jW ho);rw[hop]at this;cases this
 have hcl:∀(j:Nat)(o:Oper),l[j]?=some o->∀e∈o.after,Region.binds .any e=true->e.on<l.length:=by
  intro j o ho e he hb
  simp only[Y6q,List.all_eq_true]at h5
  have:=h5 o (jW ho);rw[Array.all_eq_true_iff_forall_mem]at this;have:=this e he;rw[hb]at this
  simpa[Nat.blt_eq]using this
 have hrep:∀i,i<l.length->(Array.replicate l.length false).getD i false=false:=fun i hi=>by simp[Array.getD_eq_getD_getElem?,hi]
 refine tr_any hsel hcl hQ l.length ord.length _ a w [] [] ord (qD _) (by simp) ?_ ?_ ?_ (Y7w ord h6) trivial h ?_
 . intro j hj;refine⟨fun _=>?_,fun _=>hrep j hj⟩
   simpa using h3 j (List.mem_range.2 hj)
 . intro j hj
   simpa[Nat.blt_eq]using h2 j (by simpa using hj)
 . intro j o hj ho;rw[hrep j (List.getElem?_eq_some_iff.1 ho).1]at hj;cases hj
 . have:=Nat.eq_of_beq_eq_true h1
   simp
   omega
end

section
variable{P:Program}{l:Ah}{fl:List Nat}{Q:Ac}{pd:List (Nat×Value)}{i m:Nat}{is:List Nat}{n:NF}{J:Nat->Value}{L:List (Nat×Value)}{w w' w0:World}
 {d:Nat} {ty:TypeId} {pos:String} {aft:Ag} {op:Op} {v:Value} {x y c:Operand} {t t2:TypeId} {T:TP} {gd:Option (Nat×Bool)}

theorem rt{id:Nat}(fl:List Nat)(ord:List Nat)(hm:P.follows .mixedOrders=true)(hB:trB l fl ord=true)(hb:Bd T w)
 (k:∀w',Inn w.heap.size noB T w T w'->Q1o P l fl (NoPanic Q) ord.length [] ord (env n J L) w'):(Code.region id l.toArray true).wp P Q (env n J L) w:=by
 refine(wpIn_wide (n:=0)).1 (wpIn_mono (Q:=NoPanic Q) (wpIn_region_any hm ?_) fun e a w h=>by cases e<;>first|exact h|exact h.elim)
 have:=X2d hB (Q:=NoPanic Q) (fun _ _ _ _ _ h=>h.elim) (k w.drew ((Inn.refl hb (qD _)).ch0 (Ch.drew noB w)))
 simpa using this
theorem te(h:Q .normal (env n J L) w):Q1o P l fl (NoPanic Q) m pd [] (env n J L) w:=by
 cases m with
 |zero=>exact⟨rfl,h⟩
 |succ m=>exact h
theorem t0(ho:l[i]?=some ⟨some d,op,ty,pos,aft,gd⟩)(hw:Wt l n J L gd)(h:∀w,(execOp (ev n J L) ⟨some d,op,ty,pos,aft,none⟩).run P w= .ok (.value v) w)(hf:fl.getD i 2=0)
 (k:Q1o P l fl Q m pd is (env n J ((d,v)::L)) w):Q1o P l fl Q (m+1) pd (i::is) (env n J L) w:=by
 refine⟨_,ho,?_⟩;rw[Y2v rfl hw,hf];refine⟨v,fun w=>?_,?_⟩
 . rw[Q1c];exact h w
 . show Q1o P l fl Q m pd is (Act.put _ (some d) v) w;rw[Q7r];exact k
theorem t1(ho:l[i]?=some ⟨some d,op,ty,pos,aft,gd⟩)(hw:Wt l n J L gd)(h:(execOp (ev n J L) ⟨some d,op,ty,pos,aft,none⟩).run P w= .ok (.value v) w)(hf:fl.getD i 2=1)
 (k:Q1o P l fl Q m ((i,v)::pd) is (env n J ((d,v)::L)) w):Q1o P l fl Q (m+1) pd (i::is) (env n J L) w:=by
 refine⟨_,ho,?_⟩;rw[Y2v rfl hw,hf];refine⟨v,?_,?_⟩
 . rw[Q1c];exact h
 . show Q1o P l fl Q m ((i,v)::pd) is (Act.put _ (some d) v) w;rw[Q7r];exact k
theorem tU(ho:l[i]?=some ⟨some d,op,ty,pos,aft,gd⟩)(hw:Wf l n J L gd)(hq:Z7v l fl (Q9w l) is=true)(k:Q1o P l fl Q m pd is (env n J ((d,undef)::L)) w):Q1o P l fl Q (m+1) pd (i::is) (env n J L) w:=by
 refine⟨_,ho,?_⟩;rw[want_f rfl hw];refine⟨is,fun _=>Iff.rfl,rfl,Y7w is hq,?_⟩;show Q1o P l fl Q m pd is (Act.put _ (some d) undef) w;rw[Q7r];exact k

def Br(P:Program)(l:Ah)(fl:List Nat)(Q:Ac)(m:Nat)(pd:List (Nat×Value))(R:List Nat)(a:Act)(w:World)(j:Nat):Prop:=
 ∃oj R',l[j]?=some oj/\(∀y,y∈R'↔y∈R/\y≠j)/\R'.length+1=R.length/\Z0m l fl R'/\
  match Q7z l oj a with
  |true=>oj.wpIn Fence.wide 0 P a w (fun a' w'=>Z2k P l (pd.filter fun p=>!((Q9w l).getD j 0).testBit p.1) a' w'/\Q1o P l fl Q m (pd.filter fun p=>!((Q9w l).getD j 0).testBit p.1) R' a' w') Q
  |false=>Q1o P l fl Q m pd R' (a.put oj.dst undef) w
def Brs(P:Program)(l:Ah)(fl:List Nat)(Q:Ac)(m:Nat)(pd:List (Nat×Value))(R:List Nat)(a:Act)(w:World):List Nat->Prop
 |[]=>True
 |j::js=>Br P l fl Q m pd R a w j/\Brs P l fl Q m pd R a w js
theorem Brs.get{R:List Nat}{a:Act}:∀{js:List Nat},Brs P l fl Q m pd R a w js->∀j∈js,Br P l fl Q m pd R a w j
 |[],_,j,hj=>by cases hj
 |k::js,h,j,hj=>by
  rcases qZ.1 hj with rfl|hj
  . exact h.1
  . exact Brs.get h.2 j hj
def twB(l:Ah)(fl an:List Nat)(R js:List Nat):Bool:=R.all fun y=>js.contains y||R.any fun z=>nzB fl z&&(an.getD y 0).testBit z
theorem tw(js:List Nat)(ho:(l[i]?).isSome=true)(hwt:∀o,l[i]?=some o->Q7z l o (env n J L)=true)(hf:fl.getD i 2=2)(hjs:js.all (fun j=>nzB fl j)=true)(hB:twB l fl (Q9w l) (i::is) js=true)
 (h:Brs P l fl Q m pd (i::is) (env n J L) w js):Q1o P l fl Q (m+1) pd (i::is) (env n J L) w:=by
 obtain⟨o,ho'⟩:=Option.isSome_iff_exists.1 ho;refine⟨o,ho',?_⟩;rw[hwt o ho',hf]
 simp only
 have key:∀y∈i::is,y∈js\/∃z∈i::is,nzB fl z=true/\Pre l z y:=fun y hy=>by
  simp only[twB,List.all_eq_true,qH,List.any_eq_true,qM]at hB
  rcases hB y hy with h|⟨z,hz,h1,h2⟩
  . exact .inl (by simpa using h)
  . exact .inr ⟨z,hz,h1,Z5y l _ _ h2⟩
 refine⟨fun y hy hn=>?_,fun j hj hn=>?_⟩
 . rcases key y (List.mem_cons_of_mem _ hy)with h|h
   . have:=List.all_eq_true.1 hjs y h;rw[hn]at this;cases this
   . exact h
 . rcases key j hj with h'|⟨z,hz,_,h2⟩
   . obtain⟨oj,R',a1,a2,a3,a4,a5⟩:=h.get j h';exact .inr ⟨oj,R',a1,a2,by simpa using a3,a4,a5⟩
   . exact .inl ⟨z,hz,h2⟩
def brB(R R':List Nat)(j:Nat):Bool:=Nat.beq (R'.length+1) R.length&&R'.all (fun y=>R.contains y&&!Nat.beq y j)&&R.all (fun y=>Nat.beq y j||R'.contains y)
theorem br{R:List Nat}{j:Nat}{dst:Option Tmp}(R':List Nat)(pd2:List (Nat×Value))(ho:l[j]?=some ⟨dst,op,ty,pos,aft,gd⟩)(hb:brB R R' j=true)(hq:Z7v l fl (Q9w l) R'=true)(hw:Wt l n J L gd)
 (hp:(pd.filter fun p=>!((Q9w l).getD j 0).testBit p.1)=pd2)
 (h:Oper.wp P ⟨dst,op,ty,pos,aft,none⟩ (env n J L) w (fun a' w'=>Z2k P l pd2 a' w'/\Q1o P l fl Q m pd2 R' a' w') Q):Br P l fl Q m pd R (env n J L) w j:=by
 simp only[brB,qM,List.all_eq_true,qH]at hb
 obtain⟨⟨h1,h2⟩,h3⟩:=hb;refine⟨_,R',ho,fun y=>⟨fun hy=>?_,fun hy=>?_⟩,Nat.eq_of_beq_eq_true h1,Y7w R' hq,?_⟩
 . have:=h2 y hy;exact⟨by simpa using this.1,fun e=>by simp[e]at this⟩
 . rcases h3 y hy.1 with h|h
   . exact absurd (Nat.eq_of_beq_eq_true h) hy.2
   . simpa using h
 . rw[Y2v rfl hw];subst hp;exact wp_in h
theorem wt_of{o:Oper}(ho:l[i]?=some o)(hg:o.guard=gd)(hw:Wt l n J L gd):∀o',l[i]?=some o'->Q7z l o' (env n J L)=true:=fun o' h=>by
 rw[ho]at h
 cases h
 exact Y2v hg hw
end
end Go.Proofs.YtjohcgibbiebkaaGreatDoor
