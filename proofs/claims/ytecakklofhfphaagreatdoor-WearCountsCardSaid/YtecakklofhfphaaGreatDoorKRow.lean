/- From what a row reads of its arguments to what the walks ask. It holds for every program. -/
import Derived.Test.YtecakklofhfphaaGreatDoorKAct
import Derived.ProofKit
import Derived.Deep.Slices
import Derived.SizedLaws
import Derived.Lib.SmallJoins
set_option linter.unusedVariables false
namespace Go.Proofs.YtecakklofhfphaaGreatDoor
open Go.ChangeShapes Go.WideShapes

/-- All blocks of a world. -/
def Z3h (w:World):Nat→Prop:=fun k=>k < w.heap.size
theorem bdAll (w:World):Bd (Z3h w) w:=fun _ h=>h

/-- Whatever can be read as data of this type lies as the walks ask. -/
def Q5b (P:Program) (t:TypeId) {α : Type} (r:Rp α) (wf : α → Prop):Prop :=
  ∀(H:Type) (enc:TypeId×Value→H) (w:World) (base:Nat) (sp:Nat→Bool) (held:Bool) (fuel:Nat) (cs:List Value) (x:DataW H×List MemPlace),DataW.trod enc P w base sp held fuel t cs=some x → ∃ a,r.rp (Z3h w) w cs a∧wf a

def wfI (k:IntKind) (n:Int):Prop:=(Lit.int k n).wf=true
theorem wf_u32 {n:Int} (h:wfI .u32 n):0≤n∧n < 4294967296:=by
  have h1:IntKind.u32.min=0:=rfl
  have h2:IntKind.u32.max=4294967295:=rfl
  simp only [wfI,Lit.wf,Bool.and_eq_true,decide_eq_true_eq] at h
  omega
theorem wf_u16 {n:Int} (h:wfI .u16 n):0≤n∧n < 65536:=by
  have h1:IntKind.u16.min=0:=rfl
  have h2:IntKind.u16.max=65535:=rfl
  simp only [wfI,Lit.wf,Bool.and_eq_true,decide_eq_true_eq] at h
  omega
theorem wf_u8 {n:Int} (h:wfI .u8 n):0≤n∧n < 256:=by
  have h1:IntKind.u8.min=0:=rfl
  have h2:IntKind.u8.max=255:=rfl
  simp only [wfI,Lit.wf,Bool.and_eq_true,decide_eq_true_eq] at h
  omega
theorem wf_i64 {n:Int} (h:wfI .i64 n) : -9223372036854775808≤n∧n < 9223372036854775808:=by
  have h1:IntKind.i64.min = -9223372036854775808:=rfl
  have h2:IntKind.i64.max=9223372036854775807:=rfl
  simp only [wfI,Lit.wf,Bool.and_eq_true,decide_eq_true_eq] at h
  omega

theorem rdInt {P:Program} {t:TypeId} {k:IntKind} (ht:P.underlying t=some (.int k)):Q5b P t (Q2 k) (wfI k):=by
  intro H enc w base sp held fuel cs x h
  obtain⟨n,h1,_,h3⟩:=DataW.trod_int ht h
  exact⟨n,h1,h3⟩
theorem rdBool {P:Program} {t:TypeId} (ht:P.underlying t=some .bool):Q5b P t rBool (fun _=>True):=by
  intro H enc w base sp held fuel cs x h
  obtain⟨n,h1,_⟩:=DataW.trod_bool ht h
  exact⟨n,h1,trivial⟩
theorem rdStr {P:Program} {t:TypeId} (ht:P.underlying t=some .string):Q5b P t rStr (fun s=>s.length≤maxLen):=by
  intro H enc w base sp held fuel cs x h
  obtain⟨s,h1,_,h3⟩:=DataW.trod_string ht h
  refine⟨s.data.toList,?_,by show s.data.toList.length≤maxLen; rw [Array.length_toList]; exact h3⟩
  show cs=_
  rw [h1]

theorem Q9f {α : Type} {p:Nat → α → Prop} : ∀(n:Nat),(∀ i,i < n → ∃ a,p i a) → ∃ l:List α,l.length=n ∧ ∀ i a,l[i]? = some a→p i a
  | 0,_=>⟨[],rfl,fun i a h=>by simp at h⟩
  | n+1,h=>by
    obtain⟨l,hl,hp⟩:=Q9f n (fun i hi=>h i (by omega))
    obtain⟨a,ha⟩:=h n (by omega)
    refine⟨l ++ [a],by simp [hl],fun i b hb => ?_⟩
    rcases Nat.lt_or_ge i l.length with hi | hi
    · rw [List.getElem?_append_left hi] at hb; exact hp i b hb
    · rw [List.getElem?_append_right hi] at hb
      have:i - l.length=0:=by
        rcases Nat.eq_zero_or_pos (i - l.length) with h0 | h0
        · exact h0
        · rw [List.getElem?_eq_none (by simp; omega)] at hb; cases hb
      rw [this] at hb
      simp at hb
      subst hb
      rw [show i=n by omega]
      exact ha

theorem rdSl {P:Program} {t e:TypeId} {α : Type} {r:Rp α} {wf : α → Prop} (h:Q5b P e r wf) (ht:P.underlying t=some (.slice e)) (hc:P.cellsOf e=r.sz) (hp:0 < r.sz):Q5b P t (rSl r) (fun l=>(∀ x ∈ l,wf x)∧l.length≤maxLen):=by
  intro H enc w base sp held fuel cs x hx
  rcases Go.Deep.open_slice ht hx with ⟨rfl,_⟩ | ⟨a,len,cap,m,n,D,Pl,rfl,hb,hl,hm,hmm,_,hel⟩
  · exact⟨[],⟨_,rfl,Q1x⟩,by simp,by simp⟩
  · have hlm:len≤m:=by rw [hmm]; split <;> omega
    have hch : ∀ i,i < len → ∃ u,∃ cs',r.rp (Z3h w) w cs' u∧wf u∧w.cells? base (a.add (i * P.cellsOf e)) (P.cellsOf e)=some cs' := by
      intro i hi
      obtain⟨cs',h1,h2⟩:=hel i (by omega)
      obtain⟨u,hu,hw⟩:=h H enc w base sp held n cs' _ h2
      exact⟨u,cs',hu,hw,h1⟩
    obtain⟨l,hll,hlp⟩:=Q9f len hch
    subst hll
    refine⟨l,⟨_,rfl,some a,cap,rfl,hl,hm,?_⟩,?_,Nat.le_trans hl hm⟩
    · rcases Nat.eq_zero_or_pos l.length with h0 | h0
      · exact .inl (List.eq_nil_of_length_eq_zero h0)
      · right
        obtain⟨u0,hu0⟩ : ∃ u,l[0]? = some u:=⟨l[0],List.getElem?_eq_getElem h0⟩
        obtain⟨cs0,hr0,_,hc0⟩:=hlp 0 u0 hu0
        obtain⟨_,hl0,hcell0⟩:=World.cells?_some hc0
        have hcz:w.cell? ((a.add (0 * P.cellsOf e)).add 0)=cs0[0]? := hcell0 0 (by rw [hc]; exact hp)
        have hcs0:0 < cs0.length:=by rw [hl0,hc]; exact hp
        rw [List.getElem?_eq_getElem hcs0] at hcz
        simp only [Nat.zero_mul,Addr.add_zero'] at hcz
        have hspot:=World.cell?_spot hcz
        obtain⟨b,off,spot⟩:=a
        simp only at hspot
        subst hspot
        refine⟨b,off,rfl,World.block_lt_of_cell? w ⟨b,off,none⟩ hcz,fun i u hu => ?_⟩
        obtain⟨cs',hr',_,hc'⟩:=hlp i u hu
        obtain⟨_,hl',hcell'⟩:=World.cells?_some hc'
        refine⟨cs',hr',fun j v hj => ?_⟩
        have hjl:j < cs'.length:=by
          rcases Nat.lt_or_ge j cs'.length with h | h
          · exact h
          · rw [List.getElem?_eq_none h] at hj; cases hj
        have:=hcell' j (by omega)
        rw [hj,Addr.add_lit,Addr.add_lit,hc] at this
        exact this
    · intro u hu
      obtain⟨i,hi,rfl⟩:=List.getElem_of_mem hu
      exact(hlp i _ (List.getElem?_eq_getElem hi)).choose_spec.2.1

/-- The last fields of a struct. -/
def Z7d (P:Program) (fs:List Field) (off tot:Nat) {α : Type} (r:Rp α) (wf : α → Prop):Prop :=
  ∀(H:Type) (enc:TypeId×Value→H) (w:World) (base:Nat) (sp:Nat→Bool) (held:Bool) (n:Nat) (cs:List Value),cs.length=tot →
    (∀ f ∈ fs,∃ y,DataW.trod enc P w base sp held n f.type ((cs.drop f.offset).take (P.cellsOf f.type))=some y) → ∃ a,r.rp (Z3h w) w (cs.drop off) a∧wf a
theorem Y0s {P:Program} {f:Field} {off tot:Nat} {α : Type} {r:Rp α} {wf : α → Prop} (h:Q5b P f.type r wf) (ho:f.offset=off) (hs:off+P.cellsOf f.type=tot):Z7d P [f] off tot r wf:=by
  intro H enc w base sp held n cs hl hf
  obtain⟨y,hy⟩:=hf f (by simp)
  rw [ho,List.take_of_length_le (by simp; omega)] at hy
  exact h H enc w base sp held n _ y hy
theorem Z0f {P:Program} {f:Field} {fs:List Field} {off s tot:Nat} {α β : Type} {r1:Rp α} {r2:Rp β} {wf1 : α → Prop} {wf2 : β → Prop} (h:Q5b P f.type r1 wf1) (ho:f.offset=off) (hs:P.cellsOf f.type=s) (h2:Z7d P fs (off+s) tot r2 wf2) :
    Z7d P (f::fs) off tot (F8 r1 r2) (fun p=>wf1 p.1∧wf2 p.2):=by
  intro H enc w base sp held n cs hl hf
  obtain⟨y,hy⟩:=hf f (by simp)
  rw [ho,hs] at hy
  obtain⟨a,ha,hwa⟩:=h H enc w base sp held n _ y hy
  obtain⟨b,hb,hwb⟩:=h2 H enc w base sp held n cs hl (fun g hg=>hf g (by simp [hg]))
  refine⟨(a,b),⟨_,_,?_,ha,hb⟩,hwa,hwb⟩
  rw [← List.drop_drop,List.take_append_drop]
theorem Z7n {P:Program} {t:TypeId} {fs:Array Field} {tot:Nat} {α β : Type} {r:Rp α} {wf : α → Prop} {f : β → α} (g : α → β) (hfg : ∀ a,f (g a)=a) (ht:P.underlying t=some (.struct fs)) (hc:P.cellsOf t=tot) (h:Z7d P fs.toList 0 tot r wf) :
    Q5b P t (r.iso f) (fun y=>wf (f y)):=by
  intro H enc w base sp held fuel cs x hx
  obtain⟨xs,n,_,_,hlen,hxl,hf⟩:=DataW.trod_struct ht hx
  obtain⟨a,ha,hwa⟩:=h H enc w base sp held n cs (hlen.trans hc) (by
    intro fd hfd
    obtain⟨i,hi,rfl⟩:=List.getElem_of_mem hfd
    have hi' : i < fs.size:=by simpa using hi
    have:=hf i fs[i] (Array.getElem?_eq_getElem hi')
    have hxi:i < xs.length:=by omega
    rw [List.getElem?_eq_getElem hxi] at this
    exact⟨_,by simpa using this⟩)
  refine⟨g a,?_,by show wf (f (g a)); rw [hfg]; exact hwa⟩
  show r.rp _ _ cs (f (g a))
  rw [hfg]
  simpa using ha

theorem Z1u {H:Type} {enc:TypeId×Value→H} {P:Program} {w:World} {base:Nat} {sp:Nat→Bool} {held:Bool} {t:TypeId} {v:Value} {d:DataW H} {ps:List MemPlace} {α : Type} {r:Rp α} {wf : α → Prop} (h:DataW.Trod enc P w base sp held t v d ps) (hr:Q5b P t r wf) :
    ∃ a,r.rp (Z3h w) w v.cells.toList a∧wf a:=let ⟨_,h⟩:=h; hr H enc w base sp held _ _ _ h

theorem start (W:World):Sep W (Z3h W) W [empA]:=by
  refine⟨rfl,rfl,rfl,fun _ h=>h,fun _ _=>False,⟨fun i hi => ?_,fun i j k _ _ h=>h.elim⟩,fun _ _ _ h=>h.elim⟩
  obtain rfl:i=0:=by simp only [X1] at hi; omega
  exact fun _ h=>h
theorem Z9j (W:World):Sep W (Z3h W) W [Q3 []]:=by
  refine⟨rfl,rfl,rfl,fun _ h=>h,fun _ _=>False,⟨fun i hi => ?_,fun i j k _ _ h=>h.elim⟩,fun _ _ _ h=>h.elim⟩
  obtain rfl:i=0:=by simp only [X1] at hi; omega
  exact⟨fun _ _=>False,⟨fun i hi=>absurd hi (Nat.not_lt_zero i),fun i j k _ _ h=>h.elim⟩,fun k=>⟨fun h=>h.elim,fun⟨i,hi,_⟩=>absurd hi (Nat.not_lt_zero i)⟩⟩
theorem ret_true {P:Program} {f:FuncId} {args:Array Value} {W:World} {b:Bool} {G:List Z4} (h:Calls P f args W (Y4 (Z3h W) W fun T w v=>v = .bool b∧Sep W T w G∧True)) (hb:b=true) :
    Calls P f args W fun e W' => e = .returned (.bool true)∧Go.RowKit.Below W.heap.size W W' := by
  subst hb
  refine h.mono ?_
  rintro e W' ⟨v,rfl,T',hI,rfl,hS,_⟩
  refine⟨rfl,hS.os,hS.tape,hS.output,?_,fun k hk=>(hI k hk).2⟩
  rcases Nat.eq_zero_or_pos W.heap.size with h0 | h0
  · omega
  · have:=hS.lt _ (hI (W.heap.size - 1) (by show W.heap.size - 1 < W.heap.size; omega)).1
    omega
end Go.Proofs.YtecakklofhfphaaGreatDoor
