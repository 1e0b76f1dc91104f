/- An evaluator of programs, proved right for whatever the tape draws: the operations that write, and calls. It holds for every program. -/
import Derived.Test.YtecakklofhfphaaGreatDoorKAma
import Derived.Great.BuildSlice
import Derived.Laws.Append
import Derived.Laws.AppendOwn
import Derived.Laws.MakeOwn
import Derived.Deep.Upon
set_option linter.unusedVariables false
namespace Go.Proofs.YtecakklofhfphaaGreatDoor.AMX
noncomputable section
variable {φ : Mp} {P:Program} {w:World} {B:Br} {h:Hp}

def Q9y (o:X6) (off sz:Nat):Nat→Option (List (List AV))
  | 0=>some []
  | n+1=>match o.read off sz with
    | some c=>match Q9y o (off+sz) sz n with
      | some l=>some (c::l)
      | none=>none
    | none=>none
def Q5m:List (List AV)→Nat
  | []=>0
  | _::r=>Q5m r+1
theorem Q1s (l:List (List AV)):Q5m l=l.length:=by
  induction l with
  | nil=>rfl
  | cons c r ih=>simp [Q5m,ih]
theorem Q0h {sz:Nat} : ∀ {l:List (List AV)},(∀ c ∈ l,c.length=sz)→l.flatten.length=l.length * sz
  | [],_=>by simp
  | c::r,h=>by
    have:=Q0h (sz:=sz) (l:=r) fun c hc=>h c (by simp [hc])
    simp [this,h c (by simp),Nat.succ_mul,Nat.add_comm]
theorem W6 {o:X6} {sz:Nat} : ∀ {n off:Nat} {l:List (List AV)},Q9y o off sz n=some l→l.length=n∧(∀ c ∈ l,c.length=sz)∧(0 < n→0 < sz→off+n * sz≤o.n) ∧ ∀ j,j < n * sz→o.at (off+j)=l.flatten[j]?
  | 0,off,l,h=>by
    cases h
    exact⟨rfl,by simp,fun h=>absurd h (Nat.lt_irrefl _),fun j hj=>by simp at hj⟩
  | n+1,off,l,h=>by
    unfold Q9y at h
    split at h <;> first | (cases h; done) | skip
    rename_i c hc
    split at h <;> first | (cases h; done) | skip
    rename_i r hr
    cases h
    obtain⟨h1,h2,h3⟩:=X6.read_at hc
    obtain⟨k1,k2,k3,k4⟩:=W6 hr
    refine⟨by simp [k1],fun d hd => ?_,fun _ hs => ?_,fun j hj => ?_⟩
    · rcases List.mem_cons.1 hd with rfl | hd
      · exact h1
      · exact k2 d hd
    · rw [Nat.succ_mul]
      rcases Nat.eq_zero_or_pos n with hn | hn
      · subst hn; omega
      · have:=k3 hn hs; omega
    · rw [Nat.succ_mul] at hj
      rw [List.flatten_cons]
      by_cases hlt:j < sz
      · rw [List.getElem?_append_left (by omega)]
        exact h3 j hlt
      · rw [List.getElem?_append_right (by omega),h1]
        have:=k4 (j - sz) (by omega)
        rw [← this]
        congr 1
        omega

def Q0i (t:Tr (List AV)) (z:List AV) (sz N:Nat) (L:List AV):Prop:=L.length=N * sz ∧ ∀ j,j < N * sz→(el t z (j / sz))[j % sz]? = L[j]?
theorem Q0i.nil {z:List AV} {sz:Nat} : Q0i .nil z sz 0 []:=⟨by simp,fun j hj=>by simp at hj⟩
theorem Y0d {sz a b:Nat} (h:b < sz):(a * sz+b) / sz=a∧(a * sz+b) % sz=b:=by
  have hs:0 < sz:=by omega
  constructor
  · rw [Nat.add_comm,Nat.add_mul_div_right _ _ hs,Nat.div_eq_of_lt h,Nat.zero_add]
  · rw [Nat.add_comm,Nat.add_mul_mod_self_right,Nat.mod_eq_of_lt h]
theorem Q0i.snoc {t:Tr (List AV)} {z:List AV} {sz N:Nat} {L c:List AV} (h:Q0i t z sz N L) (hs:0 < sz) (hc:c.length=sz):Q0i (t.set N c) z sz (N+1) (L++c):=by
  refine⟨by rw [List.length_append,h.1,hc,Nat.succ_mul],fun j hj => ?_⟩
  rw [Nat.succ_mul] at hj
  rw [el_set]
  by_cases hlt:j < N * sz
  · have hd:j / sz < N:=Nat.div_lt_of_lt_mul (by rw [Nat.mul_comm]; exact hlt)
    rw [if_neg (by omega),List.getElem?_append_left (by rw [h.1]; exact hlt)]
    exact h.2 j hlt
  · have e:=Y0d (sz:=sz) (a:=N) (b:=j - N * sz) (by omega)
    rw [show N * sz+(j - N * sz)=j by omega] at e
    rw [e.1,e.2,if_pos rfl,List.getElem?_append_right (by rw [h.1]; omega),h.1]
theorem Q0i.puts {z:List AV} {sz:Nat} (hs:0 < sz) : ∀ {els:List (List AV)} {t:Tr (List AV)} {N:Nat} {L:List AV},Q0i t z sz N L→(∀ c ∈ els,c.length=sz)→Q0i (S3 t N els) z sz (N+els.length) (L++els.flatten)
  | [],t,N,L,h,_=>by simpa [S3] using h
  | c::r,t,N,L,h,hc=>by
    have h1:=h.snoc hs (hc c (by simp))
    have:=Q0i.puts hs h1 (els:=r) fun d hd=>hc d (by simp [hd])
    simp only [S3,List.flatten_cons,List.length_cons]
    rw [show N+(r.length+1)=N+1+r.length by omega,← List.append_assoc]
    exact this
theorem Z5e {sz:Nat} : ∀ {n:Nat} {l:List AV},l.length=n * sz→(Q6h sz n l).length=n∧(∀ c ∈ Q6h sz n l,c.length=sz)∧(Q6h sz n l).flatten=l
  | 0,l,h=>by
    have:l = []:=by simpa using h
    subst this
    exact⟨rfl,by simp [Q6h],rfl⟩
  | n+1,l,h=>by
    rw [Nat.succ_mul] at h
    obtain⟨h1,h2,h3⟩:=Z5e (sz:=sz) (n:=n) (l:=l.drop sz) (by simp; omega)
    simp only [Q6h,Q4f,Q4x]
    refine⟨by simp [h1],fun c hc => ?_,by simp [h3]⟩
    rcases List.mem_cons.1 hc with rfl | hc
    · simp; omega
    · exact h2 c hc
theorem Q0i.at {t:Tr (List AV)} {z:List AV} {sz N:Nat} {L:List AV} (h:Q0i t z sz N L) {j:Nat} (hj:j < N * sz):(X6.arr N sz t z).at j=L[j]? := by
  simp only [X6.at,hj,if_true]
  exact h.2 j hj
theorem O2 (z:List AV) : ∀ n,(O4 z n).length=n * z.length
  | 0=>by simp [O4]
  | n+1=>by simp [O4,O2 z n,Nat.succ_mul,Nat.add_comm]
theorem Q2z (z:List AV) : ∀(n j:Nat),j < n * z.length→(O4 z n)[j]? = z[j % z.length]?
  | 0,j,h=>by simp at h
  | n+1,j,h=>by
    rw [Nat.succ_mul] at h
    simp only [O4]
    by_cases hlt:j < z.length
    · rw [List.getElem?_append_left hlt,Nat.mod_eq_of_lt hlt]
    · rw [List.getElem?_append_right (by omega),Q2z z n (j - z.length) (by omega)]
      congr 1
      rw [Nat.mod_eq_sub_mod (a:=j) (by omega)]
theorem Q6j {z:List AV} {zs:Array Value} {n sz:Nat} (hz:VRs φ z zs.toList) (h1:U4 z=true) (hl:z.length=sz) :
    VRs φ (O4 z n) ((Array.range (n * sz)).map (zs[· % zs.size]!)).toList∧U4 (O4 z n)=true:=by
  subst hl
  have hzl:zs.size=z.length:=by have:=hz.len; simpa using this
  constructor
  · refine VRs.of (by simp [O2]) fun j a x ha hx => ?_
    have hj:j < n * z.length:=by
      rcases Nat.lt_or_ge j (n * z.length) with hh | hh
      · exact hh
      · rw [List.getElem?_eq_none (by rw [O2]; exact hh)] at ha; cases ha
    rw [Q2z z n j hj] at ha
    obtain⟨x',k1,k2⟩:=hz.get ha
    have hlt:j % zs.size < zs.size:=by
      rw [hzl]
      exact(List.getElem?_eq_some_iff.1 ha).1
    have:x=x' := by
      simp [hj,hzl] at hx
      rw [← hx]
      have k1' : zs[j % z.length]? = some x' := by simpa using k1
      rw [hzl] at hlt
      simp [getElem!_def,k1']
    rw [this]
    exact k2
  · refine P9 fun j a ha => ?_
    have hj:j < n * z.length:=by
      rcases Nat.lt_or_ge j (n * z.length) with hh | hh
      · exact hh
      · rw [List.getElem?_eq_none (by rw [O2]; exact hh)] at ha; cases ha
    rw [Q2z z n j hj] at ha
    exact U8 h1 ha

/-! ## Literals and make -/
def bsF (E:El) (z:AV) (n:Nat) (l:Option (List (Nat×AV))) (h:Hp):Ra:=match l with
  | some l=>bif Nat.beq (Q5l z.cells) E.sz&&Nat.ble (n * E.sz) 16777216&&Nat.blt 0 E.sz then (match Q9e (fun i=>some (i * E.sz,E.sz)) (O4 z.cells n) l with
    | some m => .ok (.sl h.next 0 n n E.sz) (P3 h .rw (.arr n E.sz (S3 .nil 0 (Q6h E.sz n m)) z.cells))
    | none => .bad) else .bad
  | none => .bad
theorem Z5d {place:Nat→Option (Nat×Nat)} : ∀ {l:List (Nat×AV)} {m m' : List AV},Q9e place m l=some m' → m'.length=m.length
  | [],m,m',h=>by cases h; rfl
  | p::l,m,m',h=>by
    unfold Q9e at h
    split at h <;> first | (cases h; done) | skip
    obtain⟨_,h⟩:=cN h
    rw [Z5d h,Q7z]
theorem HR.arr (H:HR B φ h w) {rx:Ro} {t:Tr (List AV)} {z L:List AV} {sz N cap:Nat} {c:Array Value} {e:TypeId} (hr:Q7n rx ⟨w.heap.size,0,c.size⟩ (N * sz) e (0,0)) (hC:Q0i t z sz N L) (hL:VRs φ L (c.toList.take (N * sz))) (h1:U4 L=true) (hn:N * sz≤c.size) {l:Nat} (hcap:l≤cap) (hcs:cap * sz≤c.size) (k:Nat) (hk:k ≠ 0→cap=k) :
    ∃ φ',HR B φ' (P3 h rx (.arr N sz t z)) (w.alloc (.cells c e))∧Ev B φ h w φ' (P3 h rx (.arr N sz t z)) (w.alloc (.cells c e))∧VR φ' (.sl h.next 0 l k sz) (.slice (some ⟨w.heap.size,0,none⟩) l cap):=by
  obtain⟨r1,r2⟩:=H.row (o := .arr N sz t z) (rx:=rx) (c:=c) (e:=e) hr rfl hn fun j hj=>by
    simp only [X6.n] at hj
    have hjl:j < L.length:=by rw [hC.1]; exact hj
    obtain⟨x,k1,k2⟩:=hL.get (List.getElem?_eq_getElem hjl)
    rw [List.getElem?_take,if_pos hj] at k1
    exact⟨L[j],x,by rw [hC.at hj]; exact List.getElem?_eq_getElem hjl,by simpa using k1,k2,U8 h1 (List.getElem?_eq_getElem hjl)⟩
  refine⟨_,r1,r2,?_⟩
  simp only [VR]
  exact⟨_,cap,0,Mp.set_same,rfl,fun _=>rfl,hcap,hk,by simpa using hcs⟩
theorem Y1u {t:TypeId} {n:Nat} {ps:Array (Nat×Operand)} {s:Sl} {o:Oper} {E:El} {z v:AV} {h h' : Hp} (ho:o.op = .buildSlice t n ps) (hE:(elE P t).e=some E) (hEn:E.n=none) (hz:(L9 P E.e).v=some z) (hf:bsF E z n (evP s ps.toList) h = .ok v h') :
    ∃(mk:Nat→AV) (ob:X6),v=mk h.next∧h' = P3 h .rw ob ∧ ∀(φ : Mp) (a:Act) (w:World) (g:Nat),SR φ s a→Born P φ w o a g (mk g) .rw ob:=by
  obtain⟨hsz,hE⟩:=Q1j hE
  have ht:P.underlying t=some (.slice E.e):=by
    rcases hE with ⟨_,ht⟩ | ⟨m,hm,_⟩
    · exact ht
    · rw [hEn] at hm; cases hm
  unfold bsF at hf
  split at hf <;> first | (cases hf; done) | skip
  rename_i l hl
  obtain⟨hb,hf⟩:=raN hf
  obtain⟨hb,hb3⟩:=X0 hb
  obtain⟨hb1,hb2⟩:=X0 hb
  have hb1:=Nat.eq_of_beq_eq_true hb1
  have hb2:=Nat.le_of_ble_eq_true hb2
  have hb3:0 < E.sz:=Nat.le_of_ble_eq_true hb3
  rw [N1] at hb1
  split at hf <;> first | (cases hf; done) | skip
  rename_i m hm
  cases hf
  refine⟨fun g => .sl g 0 n n E.sz,_,rfl,rfl,fun φ a w g hs => ?_⟩
  obtain⟨ie,u,hi,hu,hzv⟩:=B6 (φ := φ) hz
  have hisz:ie.size=E.sz:=by
    unfold szO at hsz; simp only [K2] at hsz
    rw [hi] at hsz
    simpa using hsz
  obtain⟨c1,c2⟩:=C8 hzv (N3 hz)
  obtain⟨z1,z2⟩:=Q6j (n:=n) c1 c2 hb1
  obtain⟨e1,e2⟩:=Y0b hs hl
  obtain⟨cs,f1,f2,f3⟩:=Z2q hm z1 z2 e1 e2
  have hml:m.length=n * E.sz:=by rw [Z5d hm,O2,hb1]
  have hcl:cs.size=n * E.sz:=by have:=f2.len; simp at this; omega
  obtain⟨k1,k2,k3⟩:=Z5e hml
  have hC:=(Q0i.nil (z:=z.cells) (sz:=E.sz)).puts hb3 k2
  rw [k1,k3,Nat.zero_add,List.nil_append] at hC
  refine⟨.cells cs E.e,cs.size,.slice (some ⟨w.heap.size,0,none⟩) n n,w,.inl rfl,?_,Z5w rfl rfl (by simp only [X6.n]; omega) (fun j hj => ?_),fun φ' hq=>by simp only [VR]; exact⟨_,n,0,hq,rfl,fun _=>rfl,Nat.le_refl _,fun _=>rfl,by simp only; omega⟩⟩
  rotate_left
  · simp only [X6.n] at hj
    have hjl:j < m.length:=by omega
    obtain⟨x,k1,k2⟩:=f2.get (List.getElem?_eq_getElem hjl)
    exact⟨m[j],x,by rw [hC.at hj]; exact List.getElem?_eq_getElem hjl,by simpa using k1,k2,U8 f3 (List.getElem?_eq_getElem hjl)⟩
  obtain⟨dst,op,ty,pos,aft,gd⟩:=o
  simp only at ho
  subst ho
  have hps:(ps.map fun(i,x)=>(i,a.eval x)).toList=ps.toList.map fun p=>(p.1,a.eval p.2):=by simp
  by_cases hpos:n * E.sz=0
  · have hn0:n=0:=by
      rcases Nat.eq_zero_or_pos n with hh | hh
      · exact hh
      · have:=Nat.mul_pos hh hb3; omega
    subst hn0
    have hrange:(Array.range 0).map (fun x=>(u.cells[x % u.cells.size]! : Value)) = #[]:=by simp
    simp only [Nat.zero_mul,hrange] at f1
    have hrun : ∀ w,(Instr.buildSlice t 0 (ps.map fun(i,x)=>(i,a.eval x))).run P w = .ok (.slice (some ⟨w.heap.size,0,none⟩) 0 0) (w.alloc (.cells cs E.e)):=fun w=>by
      simp only [Instr.buildSlice,Sem.run_bind,run_underlying ht,Result.andThen_ok,G7 hsz,hps]
      have f1' : Instr.fill (fun i=>some (i * E.sz,E.sz)) (Array.map (fun x=>(default:Value)) (Array.range 0)) (List.map (fun x=>(x.1,a.eval x.2)) ps.toList)=some cs:=by
        rw [show Array.map (fun x=>(default:Value)) (Array.range 0) = #[] by simp]
        exact f1
      simp [f1',Q3e]
    simp only [execOp,Sem.run_bind,hrun,Result.andThen_ok]
    rfl
  · have:=run_buildSlice (P:=P) w t E.e n (ps.map fun(i,x)=>(i,a.eval x)) cs ie u ht hi hu (by rw [hisz]; omega) (by rw [hisz]; exact hpos) (by rw [hps,hisz]; exact f1)
    simp only [execOp,Sem.run_bind,this,Result.andThen_ok]
    rfl
end
end Go.Proofs.YtecakklofhfphaaGreatDoor.AMX
namespace Go.Proofs.YtecakklofhfphaaGreatDoor.AMX
noncomputable section
variable {φ : Mp} {P:Program} {w:World} {B:Br} {h:Hp}

def Q9x (P:Program) (t:TypeId):Bool:=match Q9a P t with
  | some i=>Nat.ble i.bytes 16384
  | none=>false
theorem Z6p {t:TypeId} {i:TypeInfo} (h:Q9x P t=true) (hi:P.info? t=some i):i.bytes≤16384:=by
  unfold Q9x at h; simp only [K2] at h
  rw [hi] at h
  exact Nat.le_of_ble_eq_true h
theorem Q6p {t:TypeId} {n:Nat} {i:TypeInfo} (h:(szO P t).n=some n) (hi:P.info? t=some i):i.size=n:=by
  unfold szO at h; simp only [K2] at h
  rw [hi] at h
  simpa using h
theorem Q0i.zeros {z:List AV} {sz n:Nat} (hz:z.length=sz):Q0i .nil z sz n (O4 z n):=by
  subst hz
  refine⟨O2 z n,fun j hj => ?_⟩
  rw [Q2z z n j hj]
  rfl
def msF (E:El) (few:Bool) (z:AV) (l c:Option Nat) (h:Hp):Ra:=match l with
  | some l=>match c with
    | some c=>bif few&&Nat.beq (Q5l z.cells) E.sz&&Nat.ble l c&&Nat.ble c 67108864 then .ok (.sl h.next 0 l c E.sz) (P3 h .rw (.arr c E.sz .nil z.cells)) else .bad
    | none => .bad
  | none => .bad
theorem Z8c {v:Option AV} {n:Nat} {x:Value} (h:Q8y v=some n) (hx : ∀ a,v=some a→VR φ a x) : ∃ k,x = .int k (n:Int):=by
  unfold Q8y at h
  split at h
  · rename_i k m
    cases h
    have:=hx _ rfl
    simp only [VR] at this
    exact⟨k,this⟩
  · cases h
theorem Y0y {t:TypeId} {x y:Operand} {s:Sl} {o:Oper} {E:El} {z v:AV} {h h' : Hp} (ho:o.op = .makeSlice t x y) (hE:(elE P t).e=some E) (hEn:E.n=none) (hz:(L9 P E.e).v=some z) (hf:msF E (Q9x P E.e) z (Q8y ((opd x).run s)) (Q8y ((opd y).run s)) h = .ok v h') :
    ∃(mk:Nat→AV) (ob:X6),v=mk h.next∧h' = P3 h .rw ob ∧ ∀(φ : Mp) (a:Act) (w:World) (g:Nat),SR φ s a→Born P φ w o a g (mk g) .rw ob:=by
  obtain⟨hsz,hE⟩:=Q1j hE
  have ht:P.underlying t=some (.slice E.e):=by
    rcases hE with ⟨_,ht⟩ | ⟨m,hm,_⟩
    · exact ht
    · rw [hEn] at hm; cases hm
  unfold msF at hf
  split at hf <;> first | (cases hf; done) | skip
  rename_i l hl
  split at hf <;> first | (cases hf; done) | skip
  rename_i c hc
  obtain⟨hb,hf⟩:=raN hf
  cases hf
  obtain⟨hb,hb4⟩:=X0 hb
  obtain⟨hb,hb3⟩:=X0 hb
  obtain⟨hb1,hb2⟩:=X0 hb
  have hb2:=Nat.eq_of_beq_eq_true hb2
  have hb3:=Nat.le_of_ble_eq_true hb3
  have hb4:=Nat.le_of_ble_eq_true hb4
  rw [N1] at hb2
  refine⟨fun g => .sl g 0 l c E.sz,_,rfl,rfl,fun φ a w g hs => ?_⟩
  obtain⟨ie,u,hi,hu,hzv⟩:=B6 (φ := φ) hz
  have hisz:=Q6p hsz hi
  have hby:=Z6p hb1 hi
  obtain⟨c1,c2⟩:=C8 hzv (N3 hz)
  obtain⟨z1,z2⟩:=Q6j (n:=c) c1 c2 hb2
  obtain⟨kl,hx⟩:=Z8c hl fun b hb=>Y3 hs hb
  obtain⟨kc,hy⟩:=Z8c hc fun b hb=>Y3 hs hb
  have hmul:ie.bytes * c≤16384 * 67108864:=Nat.mul_le_mul hby hb4
  have hmul' : (ie.bytes:Int) * (c:Int)≤281474976710656:=by
    rw [← Int.natCast_mul]
    omega
  have hrun:=run_make (P:=P) w t E.e ie u ht hi hu kl kc (l:Int) (c:Int) (by omega) (by omega) hmul' (by omega)
  simp only [Int.toNat_natCast,hisz] at hrun
  have hlen:(madeCells u.cells (c * E.sz)).size=c * E.sz:=size_madeCells _ _
  have hC:=Q0i.zeros (n:=c) hb2
  refine⟨.cells (madeCells u.cells (c * E.sz)) E.e,(madeCells u.cells (c * E.sz)).size,.slice (some ⟨w.heap.size,0,none⟩) l c,w,.inl rfl,?_,Z5w rfl rfl (by simp only [X6.n]; omega) (fun j hj => ?_),fun φ' hq=>by simp only [VR]; exact⟨_,c,0,hq,rfl,fun _=>rfl,hb3,fun _=>rfl,by simp only; omega⟩⟩
  rotate_left
  · simp only [X6.n] at hj
    have hjl:j < (O4 z.cells c).length:=by rw [hC.1]; exact hj
    obtain⟨x,k1,k2⟩:=z1.get (List.getElem?_eq_getElem hjl)
    exact⟨(O4 z.cells c)[j],x,by rw [hC.at hj]; exact List.getElem?_eq_getElem hjl,by rw [← Array.getElem?_toList]; exact k1,k2,U8 z2 (List.getElem?_eq_getElem hjl)⟩
  obtain⟨dst,op,ty,pos,aft,gd⟩:=o
  simp only at ho
  subst ho
  simp only [execOp,Sem.run_bind,hx,hy,hrun,Result.andThen_ok]
  rfl

/-! ## Maps -/
def Z2d:List (AV×AV×Nat)→Nat→AV→AV→List (AV×AV×Nat)
  | [],_,_,_ => []
  | e::r,i,k,v=>match i with
    | 0=>(k,v,e.2.2)::r
    | i+1=>e::Z2d r i k v
def snocE:List (AV×AV×Nat)→AV×AV×Nat→List (AV×AV×Nat)
  | [],e => [e]
  | x::r,e=>x::snocE r e
def muF (d:Km) (m k v:Option AV) (h:Hp):Ra:=match m with
  | some (.mp id)=>match k with
    | some k=>match v with
      | some v=>match h.tr.get id with
        | some ob=>match ob.o with
          | .map es c=>bif Q1t d k then (match Q4q d k es 0 with
            | some (some p) => .ok (.tup []) (h.put id ob (.map (Z2d es p.1 k v) c))
            | some none => .ok (.tup []) (h.put id ob (.map (snocE es (k,v,c)) (c+1)))
            | none => .bad) else .bad
          | _ => .bad
        | none => .bad
      | none => .bad
    | none => .bad
  | _ => .bad
theorem MRs.get : ∀ {l:List (AV×AV×Nat)} {es:List MapEntry},MRs φ l es → ∀ {i:Nat} {a:AV×AV×Nat},l[i]? = some a → ∃ e,es[i]? = some e∧VR φ a.1 e.key∧VR φ a.2.1 e.val∧e.born=a.2.2
  | [],es,_,i,a,h=>by simp at h
  | b::l,es,⟨e,r,h1,h2,h3,h4,h5⟩,i,a,h=>by
    subst h1
    cases i with
    | zero=>simp at h; subst h; exact⟨e,rfl,h2,h3,h4⟩
    | succ i=>simpa using MRs.get h5 (i:=i) (a:=a) (by simpa using h)
theorem MRs.put {k v:AV} {x y:Value} (hk:VR φ k x) (hv:VR φ v y) : ∀ {l:List (AV×AV×Nat)} {es:List MapEntry} {i:Nat},MRs φ l es→MRs φ (Z2d l i k v) (es.modify i fun e => {e with key:=x,val:=y})
  | [],es,i,h=>by
    simp only [MRs] at h
    subst h
    cases i <;> simp [Z2d,MRs]
  | a::l,es,i,⟨e,r,h1,h2,h3,h4,h5⟩=>by
    subst h1
    cases i with
    | zero=>exact⟨{e with key:=x,val:=y},r,by simp,hk,hv,h4,h5⟩
    | succ i=>exact⟨e,_,by simp,h2,h3,h4,MRs.put hk hv h5⟩
theorem MRs.snoc {k v:AV} {c:Nat} {x y:Value} (hk:VR φ k x) (hv:VR φ v y) : ∀ {l:List (AV×AV×Nat)} {es:List MapEntry},MRs φ l es→MRs φ (snocE l (k,v,c)) (es ++ [{key:=x,val:=y,born:=c}])
  | [],es,h=>by
    simp only [MRs] at h
    subst h
    exact⟨_,[],rfl,hk,hv,rfl,rfl⟩
  | a::l,es,⟨e,r,h1,h2,h3,h4,h5⟩=>by
    subst h1
    exact⟨e,_,rfl,h2,h3,h4,MRs.snoc hk hv h5⟩
theorem Z0v {b:Nat} {es:Array MapEntry} {c:Nat} {o' : Obj} (hb:w.heap[b]? = some (.map es c)):(setObj b o').run P w = .ok () (w.putObj b o'):=by
  simp [setObj,Sem.run,hb]
  rfl
theorem mu_ok {t:TypeId} {x y z:Operand} {s:Sl} {a:Act} {o:Oper} {m:Km} {v:AV} {h' : Hp} (ho:o.op = .mapUpdate t x y z) (hm:(mapO P t).m=some m) (hs:SR φ s a) (H:HR B φ h w) (hf:muF m ((opd x).run s) ((opd y).run s) ((opd z).run s) h = .ok v h'):Q9g B P φ h w o a v h' := by
  have hmt:P.underlying t=some (.map m.k m.e)∧KmOk P m:=by
    simp only [mapO,V3] at hm
    split at hm <;> first | (cases hm; done) | skip
    rename_i k e ht
    split at hm <;> cases hm
    rename_i d hd
    exact⟨ht,hd,rfl⟩
  unfold muF at hf
  split at hf <;> first | (cases hf; done) | skip
  rename_i id hx
  split at hf <;> first | (cases hf; done) | skip
  rename_i k hk
  split at hf <;> first | (cases hf; done) | skip
  rename_i u hu
  split at hf <;> first | (cases hf; done) | skip
  rename_i ob hob
  split at hf <;> first | (cases hf; done) | skip
  rename_i es c hoe
  obtain⟨hkf,hf⟩:=raN hf
  have hx:=Y3 hs hx
  simp only [VR] at hx
  obtain⟨q,hq,hx⟩:=hx
  obtain⟨q',hq',hB,hor⟩:=H.ob id ob hob hq
  rw [hq] at hq'; cases hq'
  rw [hoe] at hor
  obtain⟨es',g1,g2⟩:=hor
  have hkv:=Y3 hs hk
  have huv:=Y3 hs hu
  have hlt:q.b < w.heap.size:=(Array.getElem?_eq_some_iff.1 g1).1
  have fin : ∀(o' : X6) (ob' : Obj),OR φ q ob.ro o' (some ob')→(execOp a.eval o).run P w = .ok .skip (w.putObj q.b ob')→Q9g B P φ h w o a (.tup []) (h.put id ob o'):=by
    intro o' ob' h1 h2
    obtain⟨r1,r2⟩:=H.turn hob hq (Wv.obj q.b ob' hB) (fun k hk=>World.putObj_heap_other hk) (o' := o') (by rw [World.putObj_heap_same hlt]; exact h1)
    exact⟨φ,_,undef,.inr ⟨h2,rfl⟩,by simp only [VR,VRs]; exact⟨#[],rfl,rfl⟩,r1,r2⟩
  obtain⟨dst,op,ty,pos,aft,gd⟩:=o
  simp only at ho
  subst ho
  split at hf <;> first | (cases hf; done) | skip
  · rename_i p hp
    cases hf
    obtain⟨r',e1,e2,e3⟩:=Q5d hmt.2 hkf hkv g2 hp
    cases r' with
    | none=>exact e2.elim
    | some p' =>
      obtain⟨j,u'⟩:=p'
      obtain⟨e2,_⟩:=e2
      obtain⟨e0,n2,n3⟩:=e3 j u' rfl
      have n2' : es'[j]? = some e0:=by simpa using n2
      refine fin (.map (Z2d es p.1 k u) c) (.map (es'.modify j fun e => {e with key:=a.eval y,val:=a.eval z}) c) ⟨_,rfl,?_⟩ ?_
      · rw [Array.toList_modify,e2]
        exact MRs.put hkv huv g2
      · simp only [execOp,Instr.mapUpdate,Sem.run_bind,run_underlying hmt.1,Result.andThen_ok,hx,Q3m g1,Q1v hmt.2 hkf hkv false w,e1,Sem.run_pure,n2',Option.map_some,Option.getD_some,Instr.keyThatStays,n3,if_true,Z0v g1]
  · rename_i hp
    cases hf
    obtain⟨r',e1,e2,e3⟩:=Q5d hmt.2 hkf hkv g2 hp
    cases r' with
    | some p' => exact e2.elim
    | none =>
      refine fin (.map (snocE es (k,u,c)) (c+1)) (.map (es'.push {key:=a.eval y,val:=a.eval z,born:=c}) (c+1)) ⟨_,rfl,?_⟩ ?_
      · rw [Array.toList_push]
        exact MRs.snoc hkv huv g2
      · simp only [execOp,Instr.mapUpdate,Sem.run_bind,run_underlying hmt.1,Result.andThen_ok,hx,Q3m g1,Q1v hmt.2 hkf hkv false w,e1,Sem.run_pure,Z0v g1]
end
end Go.Proofs.YtecakklofhfphaaGreatDoor.AMX
namespace Go.Proofs.YtecakklofhfphaaGreatDoor.AMX
noncomputable section
variable {φ : Mp} {P:Program} {w:World} {B:Br} {h:Hp}

def elsB (sz:Nat) (b:Option AV) (h:Hp):Option (List (List AV)):=match b with
  | some .nils=>some []
  | some (.sl id off n _ z)=>bif Nat.beq z sz then (match h.tr.get id with
    | some ob=>Q9y ob.o off sz n
    | none=>none) else none
  | _=>none
def elsZ (z:AV) (b:Option AV):Option (List (List AV)):=match b with
  | some (.int _ (.ofNat n))=>bif Nat.ble n 1000000 then some (List.replicate n z.cells) else none
  | _=>none
def elsS (sz:Nat) (b:Option AV):Option (List (List AV)):=match b with
  | some (.str l)=>bif Nat.beq sz 1 then some (l.map fun c => [.int .u8 (.ofNat c.toNat)]) else none
  | _=>none
def wrAll (id sz:Nat):List (List AV)→Nat→Hp→Option Hp
  | [],_,h=>some h
  | c::l,off,h=>match h.tr.get id with
    | some ob=>bif ob.ro.no then none else (match ob.o.write off c with
      | some o=>wrAll id sz l (off+sz) (h.put id ob o)
      | none=>none)
    | none=>none
def Ro.gr (r:Ro) (off len:Nat) (t:TypeId):Ro:=match r with
  | .own e=>bif Nat.beq off 0&&(Nat.blt 0 len&&Nat.beq e t) then .own e else .rw
  | _ => .rw
theorem gr_new {r:Ro} {off len n:Nat} {t:TypeId} {q:Q} (hq:q.base=0):Q7n (r.gr off len t) q n t (0,0):=by
  cases r <;> unfold Ro.gr <;> try exact rfl
  rename_i e
  simp only
  cases hb:(Nat.beq off 0&&(Nat.blt 0 len&&Nat.beq e t)) with
  | false=>exact rfl
  | true =>
    obtain⟨_,h2⟩:=X0 hb
    obtain⟨_,h3⟩:=X0 h2
    exact⟨rfl,(Nat.eq_of_beq_eq_true h3).symm,hq⟩
theorem gr_old {r:Ro} {off len n n' o:Nat} {t e:TypeId} {q:Q} (h:Q7n r q n e (0,0)) (ho:len ≠ 0→o=q.base+off):Q7n (r.gr off len t) ⟨q.b,o,q.size⟩ n' e (0,0):=by
  cases r <;> unfold Ro.gr <;> try exact rfl
  rename_i e
  simp only
  cases hb:(Nat.beq off 0&&(Nat.blt 0 len&&Nat.beq e t)) with
  | false=>exact rfl
  | true =>
    obtain⟨h1,h2⟩:=X0 hb
    obtain⟨h2,h3⟩:=X0 h2
    have h2:0 < len:=Nat.le_of_ble_eq_true h2
    refine⟨rfl,h.2.1,?_⟩
    have:=h.2.2
    have:=Nat.eq_of_beq_eq_true h1
    simp only
    rw [ho (by omega)]
    omega
def Hp.grow (h:Hp) (id:Nat) (rx:Ro) (o:X6):Hp:=⟨h.next+1,(h.tr.del id).set h.next ⟨0,rx,o⟩⟩
def appN (E:El) (z:AV) (id off len:Nat) (c:List AV) (r:List (List AV)) (ob:Ob) (h:Hp):Ra:=match ob.o with
  | .arr m sz t z0=>bif Nat.beq sz E.sz then (bif Nat.beq off 0&&Nat.beq m len then
      .ok (.sl h.next 0 (len+(Q5m r+1)) 0 E.sz) (h.grow id (ob.ro.gr off len E.e) (.arr (len+(Q5m r+1)) E.sz (S3 t len (c::r)) z0))
    else match Q9y ob.o off sz len with
      | some l0 => .ok (.sl h.next 0 (len+(Q5m r+1)) 0 E.sz) (h.grow id (ob.ro.gr off len E.e) (.arr (len+(Q5m r+1)) E.sz (S3 (S3 .nil 0 l0) len (c::r)) z.cells))
      | none => .bad) else .bad
  | _ => .bad
def Z3f (E:El) (few:Bool) (z:AV) (a:Option AV) (b:Option (List (List AV))) (h:Hp):Ra:=match b with
  | some els=>bif few&&Nat.blt 0 E.sz&&Nat.beq (Q5l z.cells) E.sz then (match a with
    | some .nils=>match els with
      | [] => .ok .nils h
      | c::r=>bif Nat.ble (Q5m r+1) 8589934592 then .ok (.sl h.next 0 (Q5m r+1) 0 E.sz) (P3 h (.own E.e) (.arr (Q5m r+1) E.sz (S3 .nil 0 (c::r)) z.cells)) else .bad
    | some (.sl id off len cap zz)=>bif Nat.beq zz E.sz then (match els with
      | [] => .ok (.sl id off len cap zz) h
      | c::r=>bif Nat.ble (len+(Q5m r+1)) 8589934592 then (match h.tr.get id with
        | some ob=>match cap with
          | 0=>bif ob.ro.no then .bad else appN E z id off len c r ob h
          | k+1=>bif Nat.ble (len+(Q5m r+1)) (k+1) then (match wrAll id E.sz (c::r) (off+len * E.sz) h with
              | some h' => .ok (.sl id off (len+(Q5m r+1)) (k+1) zz) h'
              | none => .bad)
            else match Q9y ob.o off E.sz len with
              | some l0 => .ok (.sl h.next 0 (len+(Q5m r+1)) 0 E.sz) (P3 h (.own E.e) (.arr (len+(Q5m r+1)) E.sz (S3 (S3 .nil 0 l0) len (c::r)) z.cells))
              | none => .bad
        | none => .bad) else .bad) else .bad
    | _ => .bad) else .bad
  | none => .bad

theorem HR.els (H:HR B φ h w) {id off sz n:Nat} {ob:Ob} {q:Q} {els:List (List AV)} (hi:h.tr.get id=some ob) (hq : φ id=some q) (he:Q9y ob.o off sz n=some els) (hs:0 < sz) :
    ∃ vs,VRs φ els.flatten vs∧U4 els.flatten=true ∧ ∀ j u,vs[j]? = some u→w.cell? ⟨q.b,q.base+off+j,none⟩=some u:=by
  obtain⟨k1,k2,k3,k4⟩:=W6 he
  have hfl:=Q0h k2
  rw [k1] at hfl
  rcases Nat.eq_zero_or_pos n with hn | hn
  · subst hn
    have:els = []:=by simpa using k1
    subst this
    exact⟨[],by simp [VRs],rfl,by simp⟩
  · obtain⟨q',h1,h2,h3⟩:=H.ob id ob hi hq
    rw [hq] at h1; cases h1
    have hle:=k3 hn hs
    have hc:ob.o.cel=true:=by
      cases hh:ob.o <;> rw [hh] at hle <;> first | rfl | skip
      all_goals
        simp only [X6.n] at hle
        have:=Nat.mul_pos hn hs
        omega
    obtain⟨c,e,fr,l1,l2,l3,l4,l5⟩:=(OR.cells hc).1 h3
    have hx : ∀ j,j < n * sz → ∃ a x,els.flatten[j]? = some a∧c[q.base+off+j]? = some x∧VR φ a x∧a.one=true:=by
      intro j hj
      obtain⟨a,x,m1,m2,m3,m4⟩:=l5 (off+j) (by omega)
      rw [k4 j hj] at m1
      exact⟨a,x,m1,by rw [Nat.add_assoc]; exact m2,m3,m4⟩
    have hlen:((c.toList.drop (q.base+off)).take (n * sz)).length=n * sz:=by simp; omega
    refine⟨(c.toList.drop (q.base+off)).take (n * sz),VRs.of (by rw [hlen,hfl]) fun i a v g1 g2 => ?_,P9 fun i a g1 => ?_,fun j u hj => ?_⟩
    · have hi' : i < n * sz:=by
        rcases Nat.lt_or_ge i (n * sz) with hh | hh
        · exact hh
        · rw [List.getElem?_eq_none (by omega)] at g1; cases g1
      obtain⟨a',x,m1,m2,m3,m4⟩:=hx i hi'
      rw [g1] at m1; cases m1
      rw [List.getElem?_take,if_pos hi',List.getElem?_drop] at g2
      have:c.toList[q.base+off+i]? = some x:=by simpa using m2
      rw [this] at g2; cases g2
      exact m3
    · have hi' : i < n * sz:=by
        rcases Nat.lt_or_ge i (n * sz) with hh | hh
        · exact hh
        · rw [List.getElem?_eq_none (by omega)] at g1; cases g1
      obtain⟨a',x,m1,m2,m3,m4⟩:=hx i hi'
      rw [g1] at m1; cases m1
      exact m4
    · have hj' : j < n * sz:=by
        rcases Nat.lt_or_ge j (n * sz) with hh | hh
        · exact hh
        · rw [List.getElem?_eq_none (by omega)] at hj; cases hj
      rw [List.getElem?_take,if_pos hj',List.getElem?_drop] at hj
      simp only [World.cell?,l1]
      simpa using hj
theorem Q4h (a:Addr) : ∀(xs ys:List Value) (i:Nat) (w w1:World),(storeCells a xs i).run P w = .ok () w1→(storeCells a (xs++ys) i).run P w=(storeCells a ys (i+xs.length)).run P w1
  | [],ys,i,w,w1,h=>by
    cases h
    rfl
  | x::xs,ys,i,w,w1,h=>by
    simp only [storeCells,List.cons_append,Sem.run_bind] at h ⊢
    cases hs:(store (a.add i) x).run P w with
    | halt e w2=>rw [hs] at h; cases h
    | ok u w2 =>
      rw [hs] at h
      simp only [Result.andThen_ok] at h ⊢
      rw [Q4h a xs ys (i+1) w2 w1 h]
      simp [Nat.add_assoc,Nat.add_comm 1]
theorem Q4g (b o k:Nat) : ∀(vs:List Value) (i:Nat),storeCells ⟨b,o+k,none⟩ vs i=storeCells ⟨b,o,none⟩ vs (k+i)
  | [],i=>rfl
  | v::r,i=>by
    simp only [storeCells,add_lit]
    rw [Q4g b o k r (i+1),Nat.add_assoc,Nat.add_assoc]
theorem HR.wrAll (H:HR B φ h w) {id sz:Nat} {q:Q} (hq : φ id=some q) : ∀ {els:List (List AV)} {off:Nat} {h1 h2:Hp} {w1:World} {vs:List Value},HR B φ h1 w1→wrAll id sz els off h1=some h2→(∀ c ∈ els,c.length=sz)→VRs φ els.flatten vs→U4 els.flatten=true →
    ∃ w',(storeCells ⟨q.b,q.base+off,none⟩ vs).run P w1 = .ok () w' ∧ HR B φ h2 w' ∧ Ev B φ h1 w1 φ h2 w'
  | [],off,h1,h2,w1,vs,H1,hw,_,hv,_=>by
    cases hw
    have:vs = []:=by simpa [VRs] using hv
    subst this
    exact⟨w1,rfl,H1,.refl⟩
  | c::els,off,h1,h2,w1,vs,H1,hw,hc,hv,ho=>by
    unfold AMX.wrAll at hw
    split at hw <;> first | (cases hw; done) | skip
    rename_i ob hob
    cases hro:ob.ro.no with
    | true=>rw [hro] at hw; cases hw
    | false =>
      rw [hro] at hw
      simp only [cond_false] at hw
      split at hw <;> first | (cases hw; done) | skip
      rename_i o ho'
      have hcl:c.length=sz:=hc c (by simp)
      have hflat:(c::els).flatten=c++els.flatten:=by simp
      rw [hflat] at hv ho
      have hvl:vs.length=c.length+els.flatten.length:=by rw [hv.len,List.length_append]
      have hv1:VRs φ c (vs.take c.length):=by
        have:=hv.sub 0 c.length
        simpa using this
      have hv2:VRs φ els.flatten (vs.drop c.length):=by
        have:=hv.sub c.length els.flatten.length
        rw [List.drop_left,List.take_length,List.take_of_length_le (by rw [List.length_drop]; omega)] at this
        exact this
      have ho1:U4 c=true:=P9 fun i a hi=>U8 ho (i:=i) (by rw [List.getElem?_append_left (List.getElem?_eq_some_iff.1 hi).1]; exact hi)
      have ho2:U4 els.flatten=true:=P9 fun i a hi=>U8 ho (i:=c.length+i) (by rw [List.getElem?_append_right (by omega)]; simpa using hi)
      obtain⟨w2,r1,r2,r3⟩:=H1.write (P:=P) hob hq hro ho' hv1 ho1
      obtain⟨w3,s1,s2,s3⟩:=HR.wrAll H hq (vs:=vs.drop c.length) r2 hw (fun d hd=>hc d (by simp [hd])) hv2 ho2
      refine⟨w3,?_,s2,r3.trans s3⟩
      have:=Q4h (P:=P) ⟨q.b,q.base+off,none⟩ (vs.take c.length) (vs.drop c.length) 0 w1 w2 r1
      rw [List.take_append_drop] at this
      rw [this,← s1,← Nat.add_assoc,Q4g q.b (q.base+off) sz]
      congr 2
      simp
      omega
structure Apx (P:Program) (w:World) (t tx ty e:TypeId) (i:TypeInfo) (u:Value) (y:Value) (m:Nat) (news:List Value):Prop where
  nothing:m=0 → ∀(base:Option Addr) (sLen sCap:Nat),sLen≤sCap→(Builtin.append_ #[t,tx] ty #[.slice base sLen sCap,y]).run P w = .ok (.slice base sLen sCap) w
  room : ∀(b o sLen sCap:Nat) (w' : World),sLen+m≤sCap→(storeCells ⟨b,o+sLen * i.size,none⟩ news).run P w = .ok () w' →
    (Builtin.append_ #[t,tx] ty #[.slice (some ⟨b,o,none⟩) sLen sCap,y]).run P w = .ok (.slice (some ⟨b,o,none⟩) (sLen+m) sCap) w'
  grow:m ≠ 0 → ∀(base:Option Addr) (sLen sCap:Nat) (olds:List Value),(Builtin.firstCells i.size sLen (.slice base sLen sCap)).run P w.drew = .ok olds.toArray w.drew→sCap < sLen+m→((sLen+m:Nat):Int)≤9223372036854775807→Builtin.nextslicecap (sLen+m) sCap * i.bytes≤281474976710656 →
    (Builtin.append_ #[t,tx] ty #[.slice base sLen sCap,y]).run P w =
      .ok (.slice (some ⟨w.heap.size,0,none⟩) (sLen+m) (grownCap w (sLen+m) sCap e))
        (w.drew.alloc (.cells ((olds++news).toArray++Builtin.zeroCells u.cells (grownCap w (sLen+m) sCap e - (sLen+m))) e))
theorem run_room (t tx ty e:TypeId) (i:TypeInfo) (ht:P.underlying t=some (.slice e)) (hi:P.info? e=some i) (b o sLen sCap:Nat) (y:Value) (m:Nat) (news:List Value) (w' : World)
    (hs:Src P i.size tx y m news w) (hroom:sLen+m≤sCap) (hst:(storeCells ⟨b,o+sLen * i.size,none⟩ news).run P w = .ok () w') :
    (Builtin.append_ #[t,tx] ty #[.slice (some ⟨b,o,none⟩) sLen sCap,y]).run P w = .ok (.slice (some ⟨b,o,none⟩) (sLen+m) sCap) w' := by
  rcases hs.kind with ⟨e',hk⟩ | hk <;> simp [Builtin.append_,run_underlying ht,run_underlying hk,sizeOf,typeInfo,hi,hs.len,hroom,hs.cells,add_lit,hst]
theorem Z6z {t tx ty e:TypeId} {i:TypeInfo} {u:Value} (ht:P.underlying t=some (.slice e)) (hi:P.info? e=some i) (hz:i.zero=some u) {y:Value} {m:Nat} {news:List Value} (hs:Src P i.size tx y m news w):Apx P w t tx ty e i u y m news where
  nothing:=fun h0 base sLen sCap hle=>by
    subst h0
    have:news = []:=by simpa using hs.newsLen
    subst this
    exact run_append_nothing w t tx ty e i ht hi base sLen sCap hle y hs
  room:=fun b o sLen sCap w' hroom hst=>run_room t tx ty e i ht hi b o sLen sCap y m news w' hs hroom hst
  grow:=fun _ base sLen sCap olds hold hg h63 hfit=>run_append_grow_src w t tx ty e i u ht hi hz base sLen sCap olds hold y m news hs hg h63 hfit
theorem Y3f {t tx ty e:TypeId} {i:TypeInfo} {u:Value} {kk k:IntKind} (ht:P.underlying t=some (.slice e)) (htx:P.underlying tx=some (.int kk)) (hi:P.info? e=some i) (hz:i.zero=some u) (hu:u.cells.size=i.size) (hs0:0 < i.size) {m:Nat} (hm:m≤1000000) (hb:i.bytes≤16384) :
    Apx P w t tx ty e i u (.int k (m:Int)) m (Builtin.zeroCells u.cells m).toList:=by
  have hw:IntKind.i64.wrap (m:Int)=m:=by rw [IntKind.wrap_i64]; omega
  have hmul:m * i.bytes≤1000000 * 16384:=Nat.mul_le_mul hm hb
  have h48i : ¬ (281474976710656 < (m:Int) * (i.bytes:Int)):=by
    rw [← Int.natCast_mul]
    omega
  have hneg : ¬ ((m:Int) < 0):=by omega
  have hw0:IntKind.i64.wrap (0:Int)=0:=rfl
  have hz0:Builtin.zeroCells u.cells 0 = #[]:=by simp [Builtin.zeroCells]
  refine⟨?_,?_,?_⟩
  · intro hm0 base sLen sCap hle
    subst hm0
    cases base <;> simp [Builtin.append_,run_underlying ht,run_underlying htx,sizeOf,typeInfo,hi,asInt,asIntOf,hw0,hle,storeCells]
  · intro b o sLen sCap w' hroom hst
    by_cases h0:m=0
    · subst h0
      rw [hz0] at hst
      have hst:(.ok () w:Result Unit) = .ok () w' := hst
      cases hst
      have hroom:sLen≤sCap:=by omega
      simp [Builtin.append_,run_underlying ht,run_underlying htx,sizeOf,typeInfo,hi,asInt,asIntOf,hw0,hroom,storeCells]
    · have hms : ¬ (m * i.size=0):=by
        have:=Nat.mul_pos (Nat.pos_of_ne_zero h0) hs0
        omega
      have hms' : ¬ (m=0 ∨ i.size=0):=by omega
      simp [Builtin.append_,run_underlying ht,run_underlying htx,sizeOf,typeInfo,zeroValue,hi,hz,asInt,asIntOf,hw,hneg,h48i,hroom,hms,add_lit,hst]
  · intro h0 base sLen sCap olds hold hg h63 hfit
    have hn : ¬ (sLen+m≤sCap):=by omega
    have h63' : ¬ (9223372036854775807 < ((sLen:Int)+(m:Int))):=by omega
    have h48' : ¬ (281474976710656 < Builtin.nextslicecap (sLen+m) sCap * i.bytes):=by omega
    have hms' : ¬ (m=0 ∨ i.size=0):=by omega
    have hms : ¬ (m * i.size=0):=by
      have:=Nat.mul_pos (Nat.pos_of_ne_zero h0) hs0
      omega
    simp [Builtin.append_,run_underlying ht,run_underlying htx,sizeOf,typeInfo,zeroValue,hi,hz,asInt,asIntOf,hw,hneg,h48i,hn,h63',h48',hms,Question.forced,hold,newRow,grownCap]
    congr 2
    apply Array.ext'
    simp [List.append_assoc]
end
end Go.Proofs.YtecakklofhfphaaGreatDoor.AMX
namespace Go.Proofs.YtecakklofhfphaaGreatDoor.AMX
noncomputable section
variable {φ : Mp} {P:Program} {w w' : World} {B:Br} {h:Hp}

theorem HR.del (H:HR B φ h w) (id:Nat):HR B φ ⟨h.next,h.tr.del id⟩ w∧Ev B φ h w φ ⟨h.next,h.tr.del id⟩ w:=by
  have hget : ∀ i ob,(h.tr.del id).get i=some ob→h.tr.get i=some ob:=by
    intro i ob hi
    rw [Tr.get_del] at hi
    split at hi
    · cases hi
    · exact hi
  exact⟨⟨H.next,fun i ob hi=>H.bd i ob (hget i ob hi),fun i ob q hi hq=>H.obj i ob q (hget i ob hi) hq,fun i j oi oj qi qj hi hj=>H.inj i j oi oj qi qj (hget _ _ hi) (hget _ _ hj),H.le,H.inv⟩,
    ⟨.refl,.refl,Nat.le_refl _,fun _ _=>rfl,fun i ob' _ hi=>⟨ob',hget i ob' hi,Nat.le_refl _,fun _=>⟨rfl,fun _ _=>rfl⟩⟩⟩⟩
theorem HR.graft (H:HR B φ h w) {id:Nat} {ob:Ob} {q q' : Q} {rx:Ro} {o' : X6} (hi:h.tr.get id=some ob) (hq : φ id=some q) (hb:q'.b=q.b) (hw:Wv B w w') (hs : ∀ k,k ≠ q.b→w'.heap[k]? = w.heap[k]?) (ho : ∀ φ',Le φ φ' → OR φ' q' rx o' w'.heap[q.b]?) :
    HR B (φ.set h.next q') (h.grow id rx o') w' ∧ Ev B φ h w (φ.set h.next q') (h.grow id rx o') w' := by
  have hle:Le φ (φ.set h.next q'):=by
    intro i q hq
    have:=H.next i q hq
    simp only [Mp.set]
    rw [if_neg (by omega)]
    exact hq
  have hget : ∀ i ob',(h.grow id rx o').tr.get i=some ob' → (i=h.next∧ob' = ⟨0,rx,o'⟩) ∨ (i ≠ h.next∧i ≠ id∧h.tr.get i=some ob'):=by
    intro i ob' hi
    simp only [Hp.grow,Tr.get_set,Tr.get_del] at hi
    split at hi
    · rename_i he; cases hi; exact .inl ⟨he,rfl⟩
    · rename_i he
      split at hi
      · cases hi
      · rename_i hd; exact .inr ⟨he,hd,hi⟩
  refine⟨⟨?_,?_,?_,?_,fun k hk=>Nat.lt_of_lt_of_le (H.le k hk) hw.size,B.keep _ _ hw H.inv⟩,⟨hw,hle,Nat.le_succ _,fun i hi=>by simp only [Mp.set]; rw [if_neg (by omega)],?_⟩⟩
  · intro i q hq
    simp only [Mp.set] at hq
    split at hq
    · rename_i he; subst he; exact Nat.lt_succ_self _
    · exact Nat.lt_succ_of_lt (H.next i q hq)
  · intro i ob' hg
    rcases hget i ob' hg with ⟨rfl,rfl⟩ | ⟨hne,hnd,hg⟩
    · exact Nat.lt_succ_self _
    · exact Nat.lt_succ_of_lt (H.bd i ob' hg)
  · intro i ob' q1 hg h1
    rcases hget i ob' hg with ⟨rfl,rfl⟩ | ⟨hne,hnd,hg⟩
    · simp only [Mp.set,if_true] at h1; cases h1
      refine⟨by rw [hb]; exact(H.obj id ob q hi hq).1,?_⟩
      rw [hb]
      exact ho _ hle
    · simp only [Mp.set] at h1
      rw [if_neg hne] at h1
      obtain⟨h2,h3⟩:=H.obj i ob' q1 hg h1
      refine⟨h2,?_⟩
      rw [hs _ fun he=>hnd (H.inj i id ob' ob q1 q hg hi h1 hq he)]
      exact h3.mono hle
  · intro i j oi oj qi qj gi gj pi pj he
    simp only [Mp.set] at pi pj
    rcases hget i oi gi with ⟨rfl,_⟩ | ⟨hni,hdi,gi⟩ <;> rcases hget j oj gj with ⟨rfl,_⟩ | ⟨hnj,hdj,gj⟩
    · rfl
    · rw [if_pos rfl] at pi; cases pi
      rw [if_neg hnj] at pj
      exact absurd (H.inj j id oj ob qj q gj hi pj hq (by rw [← he,hb])) hdj
    · rw [if_pos rfl] at pj; cases pj
      rw [if_neg hni] at pi
      exact absurd (H.inj i id oi ob qi q gi hi pi hq (by rw [he,hb])) hdi
    · rw [if_neg hni] at pi; rw [if_neg hnj] at pj
      exact H.inj i j oi oj qi qj gi gj pi pj he
  · intro i ob' hlt hg
    rcases hget i ob' hg with ⟨rfl,_⟩ | ⟨hne,hnd,hg⟩
    · omega
    · refine⟨ob',hg,Nat.le_refl _,fun _=>⟨rfl,fun q1 hq1 => ?_⟩⟩
      exact hs _ fun he=>hnd (H.inj i id ob' ob q1 q hg hi hq1 hq he)

theorem Y1q {sz:Nat} {b:Option AV} {els:List (List AV)} {y:Value} {tx e' : TypeId} (hk:P.underlying tx=some (.slice e')) (H:HR B φ h w) (hs:0 < sz) (he:elsB sz b h=some els) (hy : ∀ v,b=some v→VR φ v y) :
    ∃ news,VRs φ els.flatten news∧U4 els.flatten=true∧(∀ c ∈ els,c.length=sz)∧Src P sz tx y els.length news w:=by
  unfold elsB at he
  split at he <;> first | (cases he; done) | skip
  · cases he
    have:=hy _ rfl
    simp only [VR] at this
    subst this
    exact⟨[],by simp [VRs],rfl,by simp,Src.ofNil w hk 0⟩
  · rename_i id off n cap z
    obtain⟨hz,he⟩:=cN he
    split at he <;> first | (cases he; done) | skip
    rename_i ob hob
    have:=hy _ rfl
    simp only [VR] at this
    obtain⟨q,c,o,hq,rfl,ho,hlc,_,_⟩:=this
    obtain⟨k1,k2,k3,k4⟩:=W6 he
    obtain⟨vs,e1,e2,e3⟩:=H.els hob hq he hs
    have hvl:vs.length=n * sz:=by rw [e1.len,Q0h k2,k1]
    refine⟨vs,e1,e2,k2,?_⟩
    rw [k1]
    refine Src.ofSlice w hk ⟨q.b,o,none⟩ n c vs hvl (fun j u hj => ?_) (Z6d e1 e2)
    have hn:n ≠ 0:=by
      intro hn
      rw [hn,Nat.zero_mul] at hvl
      have:=(List.getElem?_eq_some_iff.1 hj).1
      omega
    rw [add_lit,ho (.inl hn)]
    exact e3 j u hj
theorem elsS_ok {sz:Nat} {b:Option AV} {els:List (List AV)} {y:Value} {tx:TypeId} (hk:P.underlying tx=some .string) (he:elsS sz b=some els) (hy : ∀ v,b=some v→VR φ v y) :
    ∃ news,VRs φ els.flatten news∧U4 els.flatten=true∧(∀ c ∈ els,c.length=sz)∧Src P sz tx y els.length news w:=by
  unfold elsS at he
  split at he <;> first | (cases he; done) | skip
  rename_i l
  obtain⟨hz,he⟩:=cN he
  have hz:=Nat.eq_of_beq_eq_true hz
  subst hz
  cases he
  have:=hy _ rfl
  simp only [VR] at this
  subst this
  have hf : ∀ l:List UInt8,(l.map fun c => [AV.int .u8 (.ofNat c.toNat)]).flatten=l.map fun c=>AV.int .u8 (.ofNat c.toNat):=by
    intro l
    induction l with
    | nil=>rfl
    | cons c r ih=>simp only [List.map_cons,List.flatten_cons,ih]; rfl
  have hb:byteCells ⟨l.toArray⟩=l.map fun c=>Value.int .u8 (.ofNat c.toNat):=by simp [byteCells]
  refine⟨byteCells ⟨l.toArray⟩,?_,?_,by simp,?_⟩
  · rw [hf,hb]
    refine VRs.of (by simp) fun i a v h1 h2 => ?_
    simp only [List.getElem?_map,Option.map_eq_some_iff] at h1 h2
    obtain⟨x,hx,rfl⟩:=h1
    obtain⟨x',hx',rfl⟩:=h2
    rw [hx] at hx'
    cases hx'
    simp only [VR]
  · rw [hf]
    refine P9 fun i a h1 => ?_
    simp only [List.getElem?_map,Option.map_eq_some_iff] at h1
    obtain⟨x,hx,rfl⟩:=h1
    rfl
  · have:=Src.ofString (P:=P) w hk ⟨l.toArray⟩
    have hs:(⟨l.toArray⟩:ByteArray).size=l.length:=by simp [ByteArray.size]
    rw [hs] at this
    simpa using this
theorem HR.fresh (H:HR B φ h w) {rx:Ro} {t:Tr (List AV)} {z L:List AV} {sz N cap:Nat} {news rest:List Value} {e:TypeId} (hro:Q7n rx ⟨w.drew.heap.size,0,(news++rest).toArray.size⟩ (N * sz) e (0,0)) (hC:Q0i t z sz N L) (hL:VRs φ L news) (h1:U4 L=true) (hcap:N≤cap) (hr:rest.length=(cap - N) * sz) :
    ∃ φ',HR B φ' (P3 h rx (.arr N sz t z)) (w.drew.alloc (.cells (news++rest).toArray e))∧Ev B φ h w φ' (P3 h rx (.arr N sz t z)) (w.drew.alloc (.cells (news++rest).toArray e))∧VR φ' (.sl h.next 0 N 0 sz) (.slice (some ⟨w.heap.size,0,none⟩) N cap):=by
  have hln:news.length=N * sz:=by rw [hL.len,hC.1]
  have hmul:N * sz+(cap - N) * sz=cap * sz:=by rw [← Nat.add_mul]; congr 1; omega
  obtain⟨φ',r1,r2,r3⟩:=H.drew.arr (c:=(news++rest).toArray) (e:=e) (cap:=cap) (l:=N) hro hC (by
    have:(news++rest).toArray.toList.take (N * sz)=news:=by simp [← hln]
    rw [this]; exact hL) h1 (by simp; omega) hcap (by simp; omega) 0 (fun h=>absurd rfl h)
  exact⟨φ',r1,Ev.drew.trans r2,r3⟩
end
end Go.Proofs.YtecakklofhfphaaGreatDoor.AMX
namespace Go.Proofs.YtecakklofhfphaaGreatDoor.AMX
noncomputable section
variable {φ : Mp} {P:Program} {w w' : World} {B:Br} {h:Hp}

theorem Z8y (z:Array Value) (n:Nat):(Builtin.zeroCells z n).toList.length=n * z.size:=by simp [Builtin.zeroCells]
theorem Z2m (w:World) (need old:Nat) (e:TypeId):need≤grownCap w need old e:=by
  unfold grownCap
  simp only [Question.cut]
  omega
theorem OR_arr {φ : Mp} {q:Q} {t:Tr (List AV)} {z L:List AV} {sz N:Nat} {c:Array Value} {e:TypeId} (hC:Q0i t z sz N L) (hsz:c.size=q.size) (hfit:q.base+N * sz≤q.size) (hx : ∀ j a,L[j]? = some a → ∃ x,c[q.base+j]? = some x∧VR φ a x) (h1:U4 L=true) {rx:Ro} (hr:Q7n rx q (N * sz) e (0,0)):OR φ q rx (.arr N sz t z) (some (.cells c e (0,0))) :=
  ⟨c,e,(0,0),rfl,hr,hsz,hfit,fun j hj=>by
    have hjl:j < L.length:=by rw [hC.1]; exact hj
    obtain⟨x,k1,k2⟩:=hx j _ (List.getElem?_eq_getElem hjl)
    exact⟨L[j],x,by rw [hC.at hj]; exact List.getElem?_eq_getElem hjl,k1,k2,U8 h1 (List.getElem?_eq_getElem hjl)⟩⟩
theorem Q5t {l m:List AV} (h:U4 l=true) (k:U4 m=true):U4 (l++m)=true:=P9 fun i a hi=>by
  by_cases hl:i < l.length
  · rw [List.getElem?_append_left hl] at hi; exact U8 h hi
  · rw [List.getElem?_append_right (by omega)] at hi; exact U8 k hi

theorem Y1v {m sz:Nat} {t:Tr (List AV)} {z:List AV} (hs:0 < sz) (hx : ∀ j,j < m * sz → ∃ a,(X6.arr m sz t z).at j=some a) : ∀(k i:Nat),i+k≤m → ∃ l,Q9y (.arr m sz t z) (i * sz) sz k=some l
  | 0,i,_=>⟨[],rfl⟩
  | k+1,i,h=>by
    obtain⟨l,hl⟩:=Y1v hs hx k (i+1) (by omega)
    have hle:i * sz+sz≤m * sz:=by
      rw [← Nat.succ_mul]
      exact Nat.mul_le_mul_right _ (by omega)
    have hd:=Y0d (sz:=sz) (a:=i) (b:=0) hs
    rw [Nat.add_zero] at hd
    have hlen:sz≤(el t z i).length:=by
      obtain⟨a,ha⟩:=hx (i * sz+(sz - 1)) (by omega)
      have hd2:=Y0d (sz:=sz) (a:=i) (b:=sz - 1) (by omega)
      simp only [X6.at,show i * sz+(sz - 1) < m * sz by omega,if_true,hd2] at ha
      have:=(List.getElem?_eq_some_iff.1 ha).1
      omega
    have hr:(X6.arr m sz t z).read (i * sz) sz=some ((el t z i).take sz):=by
      have h1:Nat.ble (i * sz+sz) (m * sz)=true:=by rw [bleB]; simpa using hle
      have h2:Nat.ble (0+sz) sz=true:=by rw [bleB]; simp
      simp only [X6.read,hd,h1,h2,Bool.and_self,cond_true,Q4f,Q4x,List.drop_zero,N1]
      have h3:Nat.beq ((el t z i).take sz).length sz=true:=by rw [beqB]; simp; omega
      simp only [h3,cond_true]
    refine⟨(el t z i).take sz::l,?_⟩
    simp only [Q9y,hr]
    rw [← Nat.succ_mul,hl]
theorem app_born {t tx ty:TypeId} {E:El} {z:AV} {els:List (List AV)} {v:AV} {h h' : Hp} (ht:P.underlying t=some (.slice E.e)) (hsz:(szO P E.e).n=some E.sz) (hz:(L9 P E.e).v=some z) (hne:els ≠ []) (hf:Z3f E (Q9x P E.e) z (some .nils) (some els) h = .ok v h') :
    0 < E.sz ∧ ∃(mk:Nat→AV) (ob:X6),v=mk h.next∧h' = P3 h (.own E.e) ob ∧ ∀(φ : Mp) (w:World) (y:Value) (news:List Value),VRs φ els.flatten news→U4 els.flatten=true→(∀ c ∈ els,c.length=E.sz) →
      (∀(ie:TypeInfo) (u:Value),P.info? E.e=some ie→ie.zero=some u→ie.size=E.sz→u.cells.size=E.sz→ie.bytes≤16384→Apx P w t tx ty E.e ie u y els.length news) →
      ∃ c sz x,(Builtin.append_ #[t,tx] ty #[.slice none 0 0,y]).run P w = .ok x (w.drew.alloc c)∧(∀ φ',Le φ φ' → OR φ' ⟨w.heap.size,0,sz⟩ (.own E.e) ob (some c)) ∧ ∀(φ' : Mp) (g:Nat),φ' g=some ⟨w.heap.size,0,sz⟩→VR φ' (mk g) x:=by
  unfold Z3f at hf
  simp only at hf
  obtain⟨hb,hf⟩:=raN hf
  obtain⟨hb,hb3⟩:=X0 hb
  obtain⟨hb1,hb2⟩:=X0 hb
  have hs:0 < E.sz:=Nat.le_of_ble_eq_true hb2
  have hb3:=Nat.eq_of_beq_eq_true hb3
  rw [N1] at hb3
  refine⟨hs,?_⟩
  cases els with
  | nil=>exact absurd rfl hne
  | cons c r =>
    simp only at hf
    obtain⟨hb4,hf⟩:=raN hf
    cases hf
    have hb4:=Nat.le_of_ble_eq_true hb4
    rw [Q1s] at hb4 ⊢
    refine⟨fun g => .sl g 0 (r.length+1) 0 E.sz,_,rfl,rfl,fun φ w y news n1 n2 n3 n4 => ?_⟩
    obtain⟨ie,u,hi,hu,hzv⟩:=B6 (φ := φ) hz
    have hisz:=Q6p hsz hi
    have hby:=Z6p hb1 hi
    obtain⟨c1,c2⟩:=C8 hzv (N3 hz)
    have hul:u.cells.size=E.sz:=by have:=c1.len; simp at this; omega
    replace n4:=n4 ie u hi hu hisz hul hby
    have hfl:=Q0h n3
    simp only [List.length_cons] at n4 hfl
    have hbytes:(r.length+1) * ie.bytes≤281474976710656:=Nat.le_trans (Nat.mul_le_mul hb4 hby) (by decide)
    have hrun:=n4.grow (by omega) none 0 0 [] (run_firstCells_none w.drew ie.size 0 0 0) (by omega) (by omega) (by rw [Nat.zero_add,nextslicecap_zero (by omega)]; exact hbytes)
    rw [Nat.zero_add] at hrun
    have hC:=(Q0i.nil (z:=z.cells) (sz:=E.sz)).puts hs n3
    simp only [Nat.zero_add,List.nil_append,List.length_cons] at hC
    have hge:=Z2m w (r.length+1) 0 E.e
    have hln:news.length=(r.length+1) * E.sz:=by rw [n1.len,hfl]
    have hsize:(([]++news).toArray++Builtin.zeroCells u.cells (grownCap w (r.length+1) 0 E.e - (r.length+1))).size=grownCap w (r.length+1) 0 E.e * E.sz:=by
      have:=Z8y u.cells (grownCap w (r.length+1) 0 E.e - (r.length+1))
      rw [Array.length_toList] at this
      simp only [List.nil_append,Array.size_append,List.size_toArray,this,hln,hul]
      rw [← Nat.add_mul]
      congr 1
      omega
    have hmul:(r.length+1) * E.sz≤grownCap w (r.length+1) 0 E.e * E.sz:=Nat.mul_le_mul_right _ hge
    refine⟨_,_,_,hrun,Z5w (w:=w) ⟨rfl,rfl,rfl⟩ rfl ?_ (fun j hj => ?_),fun φ' g hq => ?_⟩
    · simp only [X6.n]
      rw [hsize]
      exact hmul
    · simp only [X6.n] at hj
      have hjl:j < ((c::r).flatten).length:=by rw [hfl]; exact hj
      obtain⟨x,k1,k2⟩:=n1.get (List.getElem?_eq_getElem hjl)
      refine⟨_,x,by rw [hC.at hj]; exact List.getElem?_eq_getElem hjl,?_,k2,U8 n2 (List.getElem?_eq_getElem hjl)⟩
      rw [List.nil_append,Array.getElem?_append_left (by simp; omega)]
      simpa using k1
    · simp only [VR]
      exact⟨_,_,0,hq,rfl,fun _=>rfl,hge,fun h=>absurd rfl h,by simp only [Nat.zero_add]; rw [hsize]; exact Nat.le_refl _⟩
set_option maxHeartbeats 2000000 in
theorem app_run {t tx ty:TypeId} {E:El} {z:AV} {few:Bool} {a:Option AV} {b:Option (List (List AV))} {x y:Value} {v:AV} {h' : Hp} (ht:P.underlying t=some (.slice E.e)) (hsz:(szO P E.e).n=some E.sz) (hz:(L9 P E.e).v=some z) (hfew:few=Q9x P E.e) (H:HR B φ h w) (hx : ∀ v,a=some v→VR φ v x)
    (hy : ∀ els,b=some els→0 < E.sz → ∃ news,VRs φ els.flatten news∧U4 els.flatten=true∧(∀ c ∈ els,c.length=E.sz)∧(∀(ie:TypeInfo) (u:Value),P.info? E.e=some ie→ie.zero=some u→ie.size=E.sz→u.cells.size=E.sz→ie.bytes≤16384→Apx P w t tx ty E.e ie u y els.length news)) (hf:Z3f E few z a b h = .ok v h') :
    ∃ φ' w' r,(Builtin.append_ #[t,tx] ty #[x,y]).run P w = .ok r w' ∧ VR φ' v r∧HR B φ' h' w' ∧ Ev B φ h w φ' h' w' := by
  subst hfew
  unfold Z3f at hf
  split at hf <;> first | (cases hf; done) | skip
  rename_i els
  obtain⟨hb,hf⟩:=raN hf
  obtain⟨hb,hb3⟩:=X0 hb
  obtain⟨hb1,hb2⟩:=X0 hb
  have hs:0 < E.sz:=Nat.le_of_ble_eq_true hb2
  have hb3:=Nat.eq_of_beq_eq_true hb3
  rw [N1] at hb3
  obtain⟨ie,u,hi,hu,hzv⟩:=B6 (φ := φ) hz
  have hisz:=Q6p hsz hi
  have hby:=Z6p hb1 hi
  obtain⟨c1,c2⟩:=C8 hzv (N3 hz)
  have hul:u.cells.size=E.sz:=by have:=c1.len; simp at this; omega
  obtain⟨news,n1,n2,n3,n4⟩:=hy _ rfl hs
  replace n4:=n4 ie u hi hu hisz hul hby
  have hfl:=Q0h n3
  split at hf <;> first | (cases hf; done) | skip
  · -- nil
    have hx:=hx _ rfl
    simp only [VR] at hx
    subst hx
    split at hf
    · cases hf
      have hnil:news = []:=by simpa [VRs] using n1
      subst hnil
      exact⟨φ,w,.slice none 0 0,n4.nothing rfl none 0 0 (Nat.le_refl _),by simp only [VR],H,.refl⟩
    · rename_i c r _
      obtain⟨hb4,hf⟩:=raN hf
      cases hf
      have hb4:=Nat.le_of_ble_eq_true hb4
      rw [Q1s] at hb4 ⊢
      simp only [List.length_cons] at n4 hfl
      have hnl:news.length=(r.length+1) * ie.size:=by rw [n1.len,hfl,hisz]
      have hbytes:(r.length+1) * ie.bytes≤281474976710656:=Nat.le_trans (Nat.mul_le_mul hb4 hby) (by decide)
      have hrun:=n4.grow (by omega) none 0 0 [] (run_firstCells_none w.drew ie.size 0 0 0) (by omega) (by omega) (by rw [Nat.zero_add,nextslicecap_zero (by omega)]; exact hbytes)
      rw [Nat.zero_add] at hrun
      have hC:=(Q0i.nil (z:=z.cells) (sz:=E.sz)).puts hs n3
      simp only [Nat.zero_add,List.nil_append,List.length_cons] at hC
      have hge:=Z2m w (r.length+1) 0 E.e
      obtain⟨φ',r1,r2,r3⟩:=H.fresh (e:=E.e) (rest:=(Builtin.zeroCells u.cells (grownCap w (r.length+1) 0 E.e - (r.length+1))).toList) (rx := .own E.e) ⟨rfl,rfl,rfl⟩ hC n1 n2 hge (by rw [Z8y,hul])
      have e1:([]++news).toArray++Builtin.zeroCells u.cells (grownCap w (r.length+1) 0 E.e - (r.length+1))=(news++(Builtin.zeroCells u.cells (grownCap w (r.length+1) 0 E.e - (r.length+1))).toList).toArray:=by apply Array.ext'; simp
      exact⟨φ',_,_,hrun,r3,by rw [e1]; exact r1,by rw [e1]; exact r2⟩
  · -- a slice
    rename_i id off len cap zz _
    have hx:=hx _ rfl
    have hxv:=hx
    simp only [VR] at hx
    obtain⟨q,cc,o,hq,rfl,ho,hlc,hck,hfit⟩:=hx
    obtain⟨hzz,hf⟩:=raN hf
    have hzz:=Nat.eq_of_beq_eq_true hzz
    subst hzz
    split at hf
    · cases hf
      have hnil:news = []:=by simpa [VRs] using n1
      subst hnil
      exact⟨φ,w,.slice (some ⟨q.b,o,none⟩) len cc,n4.nothing rfl (some ⟨q.b,o,none⟩) len cc hlc,hxv,H,.refl⟩
    · rename_i c r _ _
      obtain⟨hb4,hf⟩:=raN hf
      have hb4:=Nat.le_of_ble_eq_true hb4
      rw [Q1s] at hb4
      simp only [List.length_cons] at n4 hfl
      have hnl:news.length=(r.length+1) * ie.size:=by rw [n1.len,hfl,hisz]
      have hbytes:(len+(r.length+1)) * ie.bytes≤140737488355328:=Nat.le_trans (Nat.mul_le_mul hb4 hby) (by decide)
      split at hf <;> first | (cases hf; done) | skip
      rename_i ob hob
      -- a new block
      have anew : ∀(l0:List (List AV)) (t' : Tr (List AV)) (z0:List AV) (h1:Hp) (rx:Ro),(∀ q:Q,q.base=0→Q7n rx q ((len+(r.length+1)) * E.sz) E.e (0,0))→HR B φ h1 w→Q9y ob.o off E.sz len=some l0→Q0i t' z0 E.sz (len+(r.length+1)) (l0.flatten++(c::r).flatten) → ¬ len+(r.length+1)≤cc →
          ∃ φ' w' rr,(Builtin.append_ #[t,tx] ty #[.slice (some ⟨q.b,o,none⟩) len cc,y]).run P w = .ok rr w' ∧ VR φ' (.sl h1.next 0 (len+(r.length+1)) 0 E.sz) rr∧HR B φ' (P3 h1 rx (.arr (len+(r.length+1)) E.sz t' z0)) w' ∧ Ev B φ h1 w φ' (P3 h1 rx (.arr (len+(r.length+1)) E.sz t' z0)) w' := by
        intro l0 t' z0 h1 rx hro H1 hl0 hC hno
        obtain⟨k1,k2,_,_⟩:=W6 hl0
        obtain⟨olds,o1,o2,o3⟩:=H.els hob hq hl0 hs
        have hol:olds.length=len * ie.size:=by rw [o1.len,Q0h k2,k1,hisz]
        have holds : ∀ j v,olds[j]? = some v→w.cell? ((⟨q.b,o,none⟩:Addr).add j)=some v:=by
          intro j v hj
          have hne:len ≠ 0:=by
            intro h0
            rw [h0,Nat.zero_mul] at hol
            have:olds = []:=by simpa using hol
            rw [this] at hj
            simp at hj
          rw [add_lit,ho (.inl hne)]
          exact o3 j v hj
        have hrun:=n4.grow (by omega) (some ⟨q.b,o,none⟩) len cc olds (run_firstCells_some w.drew ie.size len ⟨q.b,o,none⟩ len cc olds hol (by simpa using holds)) (by omega) (by omega) (growslice_fits (by omega) hbytes)
        have hge:=Z2m w (len+(r.length+1)) cc E.e
        obtain⟨φ',r1,r2,r3⟩:=H1.fresh (e:=E.e) (rest:=(Builtin.zeroCells u.cells (grownCap w (len+(r.length+1)) cc E.e - (len+(r.length+1)))).toList) (rx:=rx) (hro _ rfl) hC (o1.append n1) (Q5t o2 n2) hge (by rw [Z8y,hul])
        have e1:(olds++news).toArray++Builtin.zeroCells u.cells (grownCap w (len+(r.length+1)) cc E.e - (len+(r.length+1)))=(olds++news++(Builtin.zeroCells u.cells (grownCap w (len+(r.length+1)) cc E.e - (len+(r.length+1)))).toList).toArray:=by apply Array.ext'; simp
        exact⟨φ',_,_,hrun,r3,by rw [e1]; exact r1,by rw [e1]; exact r2⟩
      split at hf
      · -- the capacity isn't known
        obtain⟨hro,hf⟩:=raB hf
        unfold appN at hf
        split at hf <;> first | (cases hf; done) | skip
        rename_i m sz tt z0 hoe
        obtain⟨hb5,hf⟩:=raN hf
        have hb5:=Nat.eq_of_beq_eq_true hb5
        subst hb5
        -- what the old elements are
        obtain⟨q',hq',hB,hor⟩:=H.ob id ob hob hq
        rw [hq] at hq'; cases hq'
        rw [hoe] at hor
        obtain⟨cur,e,fr,g1,g2,g3,g4,g5⟩:=hor
        have g0:=g2.fr hro
        subst g0
        have fin : ∀(l0:List (List AV)) (t' : Tr (List AV)) (z1:List AV),Q9y ob.o off E.sz len=some l0→Q0i t' z1 E.sz (len+(r.length+1)) (l0.flatten++(c::r).flatten) →
            ∃ φ' w' rr,(Builtin.append_ #[t,tx] ty #[.slice (some ⟨q.b,o,none⟩) len cc,y]).run P w = .ok rr w' ∧ VR φ' (.sl h.next 0 (len+(r.length+1)) 0 E.sz) rr∧HR B φ' (h.grow id (ob.ro.gr off len E.e) (.arr (len+(r.length+1)) E.sz t' z1)) w' ∧ Ev B φ h w φ' (h.grow id (ob.ro.gr off len E.e) (.arr (len+(r.length+1)) E.sz t' z1)) w' := by
          intro l0 t' z1 hl0 hC
          by_cases hroom:len+(r.length+1)≤cc
          · obtain⟨k1,k2,_,_⟩:=W6 hl0
            obtain⟨olds,o1,o2,o3⟩:=H.els hob hq hl0 hs
            have hol:olds.length=len * E.sz:=by rw [o1.len,Q0h k2,k1]
            have hmul:(len+(r.length+1)) * E.sz=len * E.sz+(r.length+1) * E.sz:=Nat.add_mul _ _ _
            have hle:(len+(r.length+1)) * E.sz≤cc * E.sz:=Nat.mul_le_mul_right _ hroom
            have hnl' : news.length=(r.length+1) * E.sz:=by rw [hnl,hisz]
            have hst:=run_storeCells_at (P:=P) q.b (o+len * E.sz) e news 0 cur w g1 (by omega) (Z6d n1 n2)
            obtain⟨nc,hnc⟩ : ∃ nc,(cur.toList.take (o+len * E.sz+0)++news++cur.toList.drop (o+len * E.sz+0+news.length)).toArray=nc:=⟨_,rfl⟩
            rw [hnc] at hst
            have hrun:=n4.room q.b o len cc _ hroom (by rw [hisz]; exact hst)
            obtain⟨r1,r2⟩:=H.graft (rx:=ob.ro.gr off len E.e) (q' := ⟨q.b,o,q.size⟩) (o' := .arr (len+(r.length+1)) E.sz t' z1) hob hq rfl (Wv.row q.b nc hB) (fun k hk=>setRow_other w q.b k nc hk) (fun φ' hle' => by
              rw [setRow_heap w q.b cur nc e (0,0) g1]
              subst hnc
              refine OR_arr hC ?_ (by simp only; omega) (fun j a hj => ?_) (Q5t o2 n2) (gr_old g2 fun hl=>ho (.inl hl))
              · simp
                omega
              · simp only
                have hol' : l0.flatten.length=len * E.sz:=by rw [← o1.len,hol]
                rw [List.getElem?_toArray,Nat.add_zero,List.append_assoc]
                by_cases hjl:j < len * E.sz
                · rw [List.getElem?_append_left (by omega)] at hj
                  obtain⟨x,m1,m2⟩:=o1.get hj
                  have hne:len ≠ 0:=by
                    intro h0
                    rw [h0,Nat.zero_mul] at hjl
                    omega
                  have hcell:=o3 j x m1
                  rw [← ho (.inl hne)] at hcell
                  have hcx:cur[o+j]? = some x:=by simpa [World.cell?,g1] using hcell
                  refine⟨x,?_,VR.mono hle' _ _ m2⟩
                  rw [List.getElem?_append_left (by simp; omega),List.getElem?_take,if_pos (by omega)]
                  simpa using hcx
                · rw [List.getElem?_append_right (by omega),hol'] at hj
                  obtain⟨x,m1,m2⟩:=n1.get hj
                  have hjn:j - len * E.sz < news.length:=(List.getElem?_eq_some_iff.1 m1).1
                  refine⟨x,?_,VR.mono hle' _ _ m2⟩
                  rw [List.getElem?_append_right (by simp; omega),List.getElem?_append_left (by simp; omega),← m1]
                  congr 1
                  simp
                  omega)
            refine⟨_,_,_,hrun,?_,r1,r2⟩
            simp only [VR]
            exact⟨_,cc,o,Mp.set_same,rfl,fun _=>by simp,hroom,fun h=>absurd rfl h,by simpa using hfit⟩
          · obtain⟨d1,d2⟩:=H.del id
            obtain⟨φ',w',rr,s1,s2,s3,s4⟩:=anew l0 t' z1 ⟨h.next,h.tr.del id⟩ (ob.ro.gr off len E.e) (fun q hq=>gr_new hq) d1 hl0 hC hroom
            exact⟨φ',w',rr,s1,s2,s3,d2.trans s4⟩
        cases hb7:(Nat.beq off 0&&Nat.beq m len) with
        | true =>
          rw [hb7] at hf
          simp only [cond_true] at hf
          cases hf
          rw [Q1s]
          obtain⟨hb8,hb9⟩:=X0 hb7
          have hb8:=Nat.eq_of_beq_eq_true hb8
          have hb9:=Nat.eq_of_beq_eq_true hb9
          subst hb8; subst hb9
          -- the elements as they stand
          obtain⟨l0,hl0⟩:=Y1v (t:=tt) (z:=z0) hs (fun j hj=>by obtain⟨a,x,p1,_⟩:=g5 j hj; exact⟨a,p1⟩) m 0 (by omega)
          rw [Nat.zero_mul] at hl0
          obtain⟨k1,k2,_,k4⟩:=W6 hl0
          have hC0:Q0i tt z0 E.sz m l0.flatten:=⟨by rw [Q0h k2,k1],fun j hj=>by
            have:=k4 j hj
            simp only [Nat.zero_add,X6.at,hj,if_true] at this
            exact this⟩
          have hC:=hC0.puts hs n3
          simp only [List.length_cons] at hC
          exact fin l0 _ _ (by rw [hoe]; exact hl0) hC
        | false =>
          rw [hb7] at hf
          simp only [cond_false] at hf
          split at hf <;> first | (cases hf; done) | skip
          rename_i l0 hl0
          cases hf
          rw [Q1s]
          obtain⟨k1,k2,_,_⟩:=W6 hl0
          have hC0:=(Q0i.nil (z:=z.cells) (sz:=E.sz)).puts hs k2
          rw [k1,Nat.zero_add,List.nil_append] at hC0
          have hC:=hC0.puts hs n3
          simp only [List.length_cons] at hC
          exact fin l0 _ _ hl0 hC
      · -- the capacity is known
        rename_i k _ _ _
        have hcc:=hck (by simp)
        cases hb7:Nat.ble (len+(Q5m r+1)) (k+1) with
        | true =>
          rw [hb7] at hf
          simp only [cond_true] at hf
          split at hf <;> first | (cases hf; done) | skip
          rename_i h1 hwr
          cases hf
          have hb7:=Nat.le_of_ble_eq_true hb7
          rw [Q1s] at hb7 ⊢
          obtain⟨w',s1,s2,s3⟩:=HR.wrAll (P:=P) H hq H hwr n3 n1 n2
          have ho' := ho (.inr (by simp))
          have hrun:=n4.room q.b o len cc w' (by omega) (by rw [hisz,ho',Nat.add_assoc]; exact s1)
          refine⟨φ,w',_,hrun,?_,s2,s3⟩
          simp only [VR]
          exact⟨q,cc,o,hq,rfl,fun _=>ho',by omega,fun _=>by omega,hfit⟩
        | false =>
          rw [hb7] at hf
          simp only [cond_false] at hf
          split at hf <;> first | (cases hf; done) | skip
          rename_i l0 hl0
          cases hf
          rw [bleB,decide_eq_false_iff_not,Q1s] at hb7
          rw [Q1s]
          obtain⟨k1,k2,_,_⟩:=W6 hl0
          have hC0:=(Q0i.nil (z:=z.cells) (sz:=E.sz)).puts hs k2
          rw [k1,Nat.zero_add,List.nil_append] at hC0
          have hC:=hC0.puts hs n3
          simp only [List.length_cons] at hC
          exact anew l0 _ _ h (.own E.e) (fun q hq=>⟨rfl,rfl,hq⟩) H hl0 hC (by omega)
end
end Go.Proofs.YtecakklofhfphaaGreatDoor.AMX
namespace Go.Proofs.YtecakklofhfphaaGreatDoor.AMX
noncomputable section
variable {φ : Mp} {P:Program} {w w' : World} {B:Br} {h:Hp}

def sbF (v:Option AV) (h:Hp):Ra:=match v with
  | some (.str s) => .ok (.sl h.next 0 (s.length) 0 1) (P3 h .ro (.arr s.length 1 (S3 .nil 0 (s.map fun c => [.int .u8 (.ofNat c.toNat)])) [.int .u8 0]))
  | _ => .bad
def Y1c (P:Program) (t:TypeId):Option TypeId:=match A2 P t with
  | some (.slice e)=>match A2 P e with
    | some (.int .u8)=>some e
    | _=>none
  | _=>none
structure Ob8 where e:Option TypeId
def Y0g (P:Program) (t:TypeId):Ob8:=⟨Y1c P t⟩

def intB (P:Program) (t:TypeId):Bool:=match A2 P t with
  | some (.int _)=>true
  | _=>false
def txtB (P:Program) (t:TypeId):Bool:=match A2 P t with
  | some .string=>true
  | _=>false
def clrF (E:El) (z:AV) (v:Option AV) (h:Hp):Ra:=match v with
  | some .nils => .ok (.tup []) h
  | some (.sl id off n _ zz)=>bif Nat.beq zz E.sz&&Nat.beq (Q5l z.cells) E.sz then (match n with
    | 0 => .ok (.tup []) h
    | n+1=>match wrAll id E.sz (List.replicate (n+1) z.cells) off h with
      | some h' => .ok (.tup []) h'
      | none => .bad) else .bad
  | _ => .bad
def Q8i (P:Program) (op:Op):Option (Sl→Hp→Ra):=match op with
  | .alloc t=>match (L9 P t).v with
    | some z=>some fun s h=>newF (.whole t) h (.box z.cells)
    | none=>none
  | .box t x=>some fun s h=>match (opd x).run s with
    | some v=>bif v.lone then newF (.whole t) h (.box v.cells) else .bad
    | none => .bad
  | .buildSlice t n ps=>match (elE P t).e with
    | some E=>match E.n with
      | none=>match (L9 P E.e).v with
        | some z=>some fun s h=>bsF E z n (evP s ps.toList) h
        | none=>none
      | some _=>none
    | none=>none
  | .makeSlice t x y=>match (elE P t).e with
    | some E=>match E.n with
      | none=>match (L9 P E.e).v with
        | some z=>some fun s h=>msF E (Q9x P E.e) z (Q8y ((opd x).run s)) (Q8y ((opd y).run s)) h
        | none=>none
      | some _=>none
    | none=>none
  | .makeMap t r=>match r with
    | none=>some fun s h => .ok (.mp h.next) (P3 h .rw (.map [] 0))
    | some _=>none
  | .store t x y=>match (szO P t).n with
    | some n=>some fun s h=>Z9h n ((opd x).run s) ((opd y).run s) h
    | none=>none
  | .mapUpdate t x y z=>match (mapO P t).m with
    | some m=>some fun s h=>muF m ((opd x).run s) ((opd y).run s) ((opd z).run s) h
    | none=>none
  | .convert a b x=>match A2 P a with
    | some _=>match (Y0g P b).e with
      | some _=>some fun s h=>sbF ((opd x).run s) h
      | none=>none
    | none=>none
  | .call c=>match c.callee with
    | .builtin .append=>match c.args.toList with
      | [x,y]=>match c.argTypes.toList with
        | [t,t']=>match (elE P t).e with
          | some E=>match E.n with
            | none=>match (L9 P E.e).v with
              | some z=>bif Nat.beq t t' then some fun s h=>Z3f E (Q9x P E.e) z ((opd x).run s) (elsB E.sz ((opd y).run s) h) h
                else bif txtB P t' then some fun s h=>Z3f E (Q9x P E.e) z ((opd x).run s) (elsS E.sz ((opd y).run s)) h
                else bif intB P t' then some fun s h=>Z3f E (Q9x P E.e) z ((opd x).run s) (elsZ z ((opd y).run s)) h else none
              | none=>none
            | some _=>none
          | none=>none
        | _=>none
      | _=>none
    | .builtin .clear=>match c.args.toList with
      | [x]=>match c.argTypes.toList with
        | [t]=>match (elE P t).e with
          | some E=>match E.n with
            | none=>match (L9 P E.e).v with
              | some z=>some fun s h=>clrF E z ((opd x).run s) h
              | none=>none
            | some _=>none
          | none=>none
        | _=>none
      | _=>none
    | _=>none
  | _=>none

theorem Q3z (z:List AV) : ∀ n,(List.replicate n z).flatten=O4 z n
  | 0=>rfl
  | n+1=>by rw [List.replicate_succ,List.flatten_cons,Q3z z n]; rfl
theorem clr_ok {t:TypeId} {x:Operand} {s:Sl} {a:Act} {o:Oper} {E:El} {z v:AV} {h' : Hp} (ho:o.op = .call {callee := .builtin .clear,args := #[x],argTypes := #[t]}) (ht:P.underlying t=some (.slice E.e)) (hsz:(szO P E.e).n=some E.sz) (hz:(L9 P E.e).v=some z) (hs:SR φ s a) (H:HR B φ h w) (hf:clrF E z ((opd x).run s) h = .ok v h'):Q9g B P φ h w o a v h' := by
  obtain⟨ie,u,hi,hu,hzv⟩:=B6 (φ := φ) hz
  have hzr : ∀ w,(zeroValue E.e).run P w = .ok u w:=fun w=>by simp [zeroValue,typeInfo,program,hi,hu,Sem.run,bind,Sem.bind,pure]
  obtain⟨c1,c2⟩:=C8 hzv (N3 hz)
  obtain⟨dst,op,ty,pos,aft,gd⟩:=o
  simp only at ho
  subst ho
  have fin : ∀ w',(Builtin.clear_ #[t] ty #[a.eval x]).run P w = .ok (.tuple #[]) w' → (execOp a.eval ⟨dst,.call {callee := .builtin .clear,args := #[x],argTypes := #[t]},ty,pos,aft,gd⟩).run P w = .ok (.value (.tuple #[])) w' := by
    intro w' hr
    simp only [execOp,resolve,invoke,builtin,Sem.run_bind,Sem.run_pure,Result.andThen_ok,List.map_toArray,List.map_cons,List.map_nil,hr]
  have hv0 : ∀ φ' : Mp,VR φ' (.tup []) (.tuple #[]):=fun φ' => by simp only [VR,VRs]; exact⟨#[],rfl,rfl⟩
  unfold clrF at hf
  split at hf <;> first | (cases hf; done) | skip
  · rename_i hx
    cases hf
    have hx:=Y3 hs hx
    simp only [VR] at hx
    refine⟨φ,w,_,.inl (fin w ?_),hv0 φ,H,.refl⟩
    simp [Builtin.clear_,run_underlying ht,hx]
  · rename_i id off n cp zz hx
    have hxx:=raN hf
    clear hf
    obtain⟨hb,hf⟩:=hxx
    obtain⟨hb1,hb2⟩:=X0 hb
    have hb1:=Nat.eq_of_beq_eq_true hb1
    have hb2:=Nat.eq_of_beq_eq_true hb2
    rw [N1] at hb2
    subst hb1
    have hx:=Y3 hs hx
    simp only [VR] at hx
    obtain⟨q,cc,o,hq,hx,ho,hlc,_,hfit⟩:=hx
    split at hf
    · cases hf
      refine⟨φ,w,_,.inl (fin w ?_),hv0 φ,H,.refl⟩
      simp [Builtin.clear_,run_underlying ht,hx]
    · rename_i n _
      split at hf <;> cases hf
      rename_i hw
      have hul:u.cells.size=E.sz:=by have:=c1.len; simp at this; omega
      obtain⟨z1,z2⟩:=Q6j (n:=n+1) c1 c2 hb2
      rw [← Q3z] at z1 z2
      obtain⟨w',r1,r2,r3⟩:=HR.wrAll (P:=P) H hq H hw (fun c hc=>by rw [List.eq_of_mem_replicate hc]; exact hb2) z1 z2
      rw [← ho (.inl (by omega)),← hul] at r1
      have hzc:(Builtin.zeroCells u.cells (n+1)).toList=((Array.range ((n+1) * u.cells.size)).map (u.cells[· % u.cells.size]!)).toList:=rfl
      rw [← hzc] at r1
      refine⟨φ,w',_,.inl (fin w' ?_),hv0 φ,r2,r3⟩
      have hlast : ∀ k:Value→Sem Value,True:=fun _=>trivial
      simp only [Builtin.clear_,Sem.run_bind,run_underlying ht,hx,List.getElem?_toArray,List.getElem?_cons_zero,Result.andThen_ok,hzr,r1,Sem.run_pure]
theorem Z7b (w:World) (cs:Array Value) (e:TypeId) (n:Nat):(w.alloc (.cells cs e)).freeze ⟨w.heap.size,n,none⟩ 1=w.alloc (.cells cs e (n,n+1)):=by
  unfold World.freeze World.alloc
  rw [if_neg (by decide)]
  simp only
  congr 1
  apply Array.ext_getElem?
  intro k
  simp only [Array.getElem?_modify]
  by_cases hk:k=w.heap.size
  · subst hk; simp
  · rw [if_neg (fun e=>hk e.symm),Array.getElem?_push,Array.getElem?_push]
    simp [hk]
theorem flat1 (l:List UInt8):(l.map fun c => [AV.int .u8 (.ofNat c.toNat)]).flatten=l.map fun c=>AV.int .u8 (.ofNat c.toNat):=by
  induction l with
  | nil=>rfl
  | cons c r ih=>simp only [List.map_cons,List.flatten_cons,ih]; rfl
theorem sb_ok {t1 t2 e:TypeId} {x:Operand} {s:Sl} {a:Act} {o:Oper} {v:AV} {h' : Hp} {d:TypeDesc} (ho:o.op = .convert t1 t2 x) (hd:P.underlying t1=some d) (he:(Y0g P t2).e=some e) (hs:SR φ s a) (H:HR B φ h w) (hf:sbF ((opd x).run s) h = .ok v h'):Q9g B P φ h w o a v h' := by
  have ht:P.underlying t2=some (.slice e)∧P.underlying e=some (.int .u8):=by
    simp only [Y0g,Y1c,V3] at he
    split at he <;> first | (cases he; done) | skip
    rename_i e' ht
    split at he <;> first | (cases he; done) | skip
    rename_i hu
    cases he
    exact⟨ht,hu⟩
  unfold sbF at hf
  split at hf <;> first | (cases hf; done) | skip
  rename_i l hx
  cases hf
  have hx:=Y3 hs hx
  simp only [VR] at hx
  obtain⟨gc,hgc⟩ : ∃ gc,(Question.appendCap l.length 0 e).cut (w.tape w.drawn (.appendCap l.length 0 e))=gc:=⟨_,rfl⟩
  have hge:l.length≤gc:=by rw [← hgc]; simp only [Question.cut]; omega
  obtain⟨cs,hcs⟩ : ∃ cs,((⟨l.toArray⟩:ByteArray).data.map (fun b=>Value.int .u8 (b.toNat:Int)))++Array.replicate (gc - l.length) (Value.int .u8 0)=cs:=⟨_,rfl⟩
  have hcl:cs.size=gc:=by rw [← hcs]; simp; omega
  have hC:=(Q0i.nil (z := [.int .u8 0]) (sz:=1)).puts Nat.one_pos (els:=l.map fun c => [AV.int .u8 (.ofNat c.toNat)]) (by simp)
  have hL : ∀ j,j < l.length→(l.map fun c => [AV.int .u8 (.ofNat c.toNat)]).flatten[j]? = (l[j]?).map fun c=>AV.int .u8 (.ofNat c.toNat):=by
    intro j _
    rw [flat1]
    simp
  obtain⟨w2,hw2⟩ : ∃ w2,(w.drew.alloc (.cells cs e)).freeze ⟨w.heap.size,cs.size,none⟩ 1=w2:=⟨_,rfl⟩
  have hal:(w.drew.alloc (.cells cs e)).heap[w.heap.size]? = some (.cells cs e):=heap_alloc_new w.drew _
  have hpush:w2=w.drew.alloc (.cells cs e (cs.size,cs.size+1)):=by
    rw [← hw2]
    exact Z7b w.drew cs e cs.size
  have hobj : ∀ φ',Le φ φ' → OR φ' ⟨w.drew.heap.size,0,gc⟩ .ro (.arr l.length 1 (S3 .nil 0 (l.map fun c => [.int .u8 (.ofNat c.toNat)])) [.int .u8 0]) (some (.cells cs e (cs.size,cs.size+1))):=by
    intro φ' _
    refine⟨cs,e,_,rfl,trivial,hcl,by simpa using hge,fun j hj => ?_⟩
    rw [Nat.mul_one] at hj
    have hat:=hC.at (j:=j) (by simpa using hj)
    simp only [Nat.zero_add,List.length_map,List.nil_append] at hat
    rw [hL j hj] at hat
    refine⟨.int .u8 (.ofNat l[j].toNat),.int .u8 (l[j].toNat:Int),?_,?_,by simp only [VR]; rfl,rfl⟩
    · rw [hat]; simp [hj]
    · rw [← hcs,Nat.zero_add,Array.getElem?_append_left (by simpa using hj)]
      simp [hj]
  obtain⟨r1,r2⟩:=H.drew.new (rx := .ro) hobj
  rw [← hpush] at r1 r2
  refine⟨_,w2,.slice (some ⟨w.heap.size,0,none⟩) l.length gc,.inl ?_,?_,r1,Ev.drew.trans r2⟩
  · obtain⟨dst,op,ty,pos,aft,gd⟩:=o
    simp only at ho
    subst ho
    have hz:(⟨l.toArray⟩:ByteArray).size=l.length:=by simp [ByteArray.size]
    have hrun:(Conv.stringToBytes e ⟨l.toArray⟩).run P w = .ok (.slice (some ⟨w.heap.size,0,none⟩) l.length gc) w2:=by
      have hch:(choose (.appendCap l.length 0 e)).run P w = .ok gc w.drew:=by
        rw [← hgc]
        rfl
      have hshape:(shape w.heap.size).run P (w.drew.alloc (.cells cs e)) = .ok (some (e,cs.size)) (w.drew.alloc (.cells cs e)):=by
        have:(w.drew.alloc (.cells cs e)).shape? w.heap.size=some (e,cs.size):=by unfold World.shape?; rw [hal]
        rw [← this]
        rfl
      have hfr:(freeze ⟨w.heap.size,cs.size,none⟩ 1).run P (w.drew.alloc (.cells cs e)) = .ok () w2:=by
        rw [← hw2]
        rfl
      simp only [Conv.stringToBytes,Sem.run_bind,hz,hch,Result.andThen_ok,hcs,Q3e,markStringish]
      have:(w.drew).heap.size=w.heap.size:=rfl
      simp only [this,hshape,Result.andThen_ok,hfr,Sem.run_pure]
    simp only [execOp,Sem.run_bind,convert,run_underlying hd,run_underlying ht.1,run_underlying ht.2,Result.andThen_ok,hx,hrun]
    rfl
  · simp only [VR]
    exact⟨⟨w.drew.heap.size,0,gc⟩,gc,0,Mp.set_same,rfl,fun _=>rfl,hge,fun h=>absurd rfl h,by simp⟩

theorem actOk {o:Oper} {f:Sl→Hp→Ra} {s:Sl} {v:AV} {a:Act} {h' : Hp} (hk:Q8i P o.op=some f) (hs:SR φ s a) (H:HR B φ h w) (hf:f s h = .ok v h'):Q9g B P φ h w o a v h' := by
  cases hop:o.op <;> rw [hop] at hk <;> simp only [Q8i,V3] at hk <;> first | (cases hk; done) | skip
  case alloc t =>
    split at hk <;> cases hk
    rename_i z hz
    cases hf
    exact(Z3g hop hz w h.next).acted H
  case box t x =>
    cases hk
    simp only at hf
    split at hf <;> first | (cases hf; done) | skip
    rename_i u hu
    obtain⟨h1,h2⟩:=raN hf
    cases h2
    exact(Z2c hop hs hu h1 w h.next).acted H
  case buildSlice t n ps =>
    split at hk <;> first | (cases hk; done) | skip
    rename_i E hE
    split at hk <;> first | (cases hk; done) | skip
    rename_i hEn
    split at hk <;> cases hk
    rename_i z hz
    obtain⟨mk,ob,rfl,rfl,hb⟩:=Y1u hop hE hEn hz hf
    exact(hb φ a w h.next hs).acted H
  case makeSlice t x y =>
    split at hk <;> first | (cases hk; done) | skip
    rename_i E hE
    split at hk <;> first | (cases hk; done) | skip
    rename_i hEn
    split at hk <;> cases hk
    rename_i z hz
    obtain⟨mk,ob,rfl,rfl,hb⟩:=Y0y hop hE hEn hz hf
    exact(hb φ a w h.next hs).acted H
  case makeMap t r =>
    split at hk <;> cases hk
    cases hf
    exact mkmap_ok hop H
  case store t x y =>
    split at hk <;> cases hk
    rename_i n hn
    exact store_ok hop hn hs H hf
  case mapUpdate t x y z =>
    split at hk <;> cases hk
    rename_i m hm
    exact mu_ok hop hm hs H hf
  case convert t1 t2 x =>
    split at hk <;> first | (cases hk; done) | skip
    rename_i d hd
    split at hk <;> cases hk
    rename_i e he
    exact sb_ok hop hd he hs H hf
  case call c =>
    obtain⟨ce,xs,ts⟩:=c
    try simp only at hk
    split at hk <;> first | (cases hk; done) | skip
    rotate_left
    · split at hk <;> first | (cases hk; done) | skip
      rename_i x hx
      split at hk <;> first | (cases hk; done) | skip
      rename_i t ht
      split at hk <;> first | (cases hk; done) | skip
      rename_i E hE
      split at hk <;> first | (cases hk; done) | skip
      rename_i hEn
      split at hk <;> cases hk
      rename_i z hz
      have h1:xs = #[x]:=by apply Array.ext'; simpa using hx
      have h2:ts = #[t]:=by apply Array.ext'; simpa using ht
      subst h1; subst h2
      obtain⟨hsz,hE⟩:=Q1j hE
      have htu:P.underlying t=some (.slice E.e):=by
        rcases hE with ⟨_,ht⟩ | ⟨m,hm,_⟩
        · exact ht
        · rw [hEn] at hm; cases hm
      exact clr_ok hop htu hsz hz hs H hf
    split at hk <;> first | (cases hk; done) | skip
    rename_i x y hx
    split at hk <;> first | (cases hk; done) | skip
    rename_i t t' ht
    split at hk <;> first | (cases hk; done) | skip
    rename_i E hE
    split at hk <;> first | (cases hk; done) | skip
    rename_i hEn
    split at hk <;> first | (cases hk; done) | skip
    rename_i z hz
    have h1:xs = #[x,y]:=by apply Array.ext'; simpa using hx
    have h2:ts = #[t,t']:=by apply Array.ext'; simpa using ht
    subst h1; subst h2
    obtain⟨hsz,hE⟩:=Q1j hE
    have htu:P.underlying t=some (.slice E.e):=by
      rcases hE with ⟨_,ht⟩ | ⟨m,hm,_⟩
      · exact ht
      · rw [hEn] at hm; cases hm
    have key : ∃ b,(∀ els,b=some els→0 < E.sz → ∃ news,VRs φ els.flatten news∧U4 els.flatten=true∧(∀ c ∈ els,c.length=E.sz)∧(∀(ie:TypeInfo) (u:Value),P.info? E.e=some ie→ie.zero=some u→ie.size=E.sz→u.cells.size=E.sz→ie.bytes≤16384→Apx P w t t' o.type E.e ie u (a.eval y) els.length news))∧Z3f E (Q9x P E.e) z ((opd x).run s) b h = .ok v h' := by
      cases hb:Nat.beq t t' with
      | true =>
        have hb:=Nat.eq_of_beq_eq_true hb
        subst hb
        simp only [Nat.beq_refl,cond_true,Option.some.injEq] at hk
        subst hk
        refine⟨_,fun els he h0 => ?_,hf⟩
        obtain⟨news,n1,n2,n3,n4⟩:=Y1q (P:=P) htu H h0 he fun u hu=>Y3 hs hu
        exact⟨news,n1,n2,n3,fun ie u hi hu hsz _ _=>Z6z htu hi hu (by rw [hsz]; exact n4)⟩
      | false =>
        rw [hb] at hk
        simp only [cond_false] at hk
        cases hb:txtB P t' with
        | true =>
          rw [hb] at hk
          cases hk
          have hts:P.underlying t' = some .string:=by
            unfold txtB at hb
            simp only [V3] at hb
            split at hb <;> first | (cases hb; done) | skip
            assumption
          refine⟨_,fun els he h0 => ?_,hf⟩
          obtain⟨news,n1,n2,n3,n4⟩:=elsS_ok (P:=P) (w:=w) hts he fun u hu=>Y3 hs hu
          exact⟨news,n1,n2,n3,fun ie u hi hu hsz _ _=>Z6z htu hi hu (by rw [hsz]; exact n4)⟩
        | false =>
          rw [hb] at hk
          simp only [cond_false] at hk
          obtain⟨hb,hk⟩:=cN hk
          cases hk
          obtain⟨kk,hti⟩ : ∃ kk,P.underlying t' = some (.int kk):=by
            unfold intB at hb
            simp only [V3] at hb
            split at hb <;> first | (cases hb; done) | skip
            exact⟨_,by assumption⟩
          refine⟨_,fun els he h0 => ?_,hf⟩
          obtain⟨zi,zu,z1,z2,z3⟩:=B6 (φ := φ) hz
          obtain⟨c1,c2⟩:=C8 z3 (N3 hz)
          have he0:=he
          unfold elsZ at he
          split at he <;> first | (cases he; done) | skip
          rename_i k n hy
          obtain⟨hn,he⟩:=cN he
          cases he
          have hn:=Nat.le_of_ble_eq_true hn
          have hy:=Y3 hs hy
          simp only [VR] at hy
          have hzl:zu.cells.size=z.cells.length:=by have:=c1.len; simpa using this
          obtain⟨q1,q2⟩:=Q6j (n:=n) c1 c2 hzl.symm
          rw [← Q3z] at q1 q2
          have hzc:(Builtin.zeroCells zu.cells n).toList=((Array.range (n * zu.cells.size)).map (zu.cells[· % zu.cells.size]!)).toList:=rfl
          have hzs:zi.size=E.sz:=Q6p hsz z1
          have hws:z.cells.length=E.sz:=by
            simp only at hf
            rw [he0] at hf
            unfold Z3f at hf
            simp only at hf
            obtain⟨hb0,_⟩:=raN hf
            obtain⟨_,hb1⟩:=X0 hb0
            have:=Nat.eq_of_beq_eq_true hb1
            rw [N1] at this
            exact this
          refine⟨(Builtin.zeroCells zu.cells n).toList,by rw [hzc]; exact q1,q2,fun c hc=>by rw [List.eq_of_mem_replicate hc]; exact hws,fun ie u hi hu hsz' hul hby => ?_⟩
          rw [z1] at hi
          cases hi
          rw [z2] at hu
          cases hu
          rw [hy]
          simp only [List.length_replicate]
          exact Y3f htu hti z1 z2 (by omega) (by omega) hn hby
    obtain⟨bb,hbb,hf⟩:=key
    obtain⟨φ',w',r,r1,r2,r3,r4⟩:=app_run (tx:=t') (ty:=o.type) htu hsz hz rfl H (fun u hu=>Y3 hs hu) hbb hf
    refine⟨φ',w',r,.inl ?_,r2,r3,r4⟩
    obtain⟨dst,op,ty,pos,aft,gd⟩:=o
    simp only at hop
    subst hop
    simp only [execOp,resolve,invoke,builtin,Sem.run_bind,Sem.run_pure,Result.andThen_ok,List.map_toArray,List.map_cons,List.map_nil,r1]
end
end Go.Proofs.YtecakklofhfphaaGreatDoor.AMX
namespace Go.Proofs.YtecakklofhfphaaGreatDoor.AMX
noncomputable section

inductive Rs where
  | ok (s:Sl) (h:Hp)
  | bad
inductive Rv where
  | ok (v:AV) (h:Hp)
  | bad
structure X2 where
  run:FuncId→List AV→Hp→Rv
  yld:Nat→List AV→Hp→Rv
def X2.noY (c:X2):X2:=⟨c.run,fun _ _ _ => .bad⟩
def NoY (c:X2):Prop := ∀ l args h,c.yld l args h = .bad
structure Fs where run:Sl→Hp→Rs

def C4 (P:Program) (op:Op):Kd:=match Q5q P op with
  | some f => .pure f
  | none=>match Q4k P op with
    | some r => .read r.i r.f
    | none=>match Q8i P op with
      | some f => .act f
      | none=>match op with
        | .call c=>match c.callee with
          | .value f => .call f c.args.toList
          | _ => .bad
        | .defer c=>match c.callee with
          | .value f => .dfr f c.args.toList
          | _ => .bad
        | _ => .bad
def val (d:Option Tmp) (s:Sl) (h:Hp) (v:Option AV):Rs:=Option.rec (motive:=fun _=>Rs) .bad (fun v=>Option.rec (motive:=fun _=>Rs) (.ok s h) (fun d => .ok (.cons d v s) h) d) v
def val1 (d:Option Tmp) (s:Sl) (h:Hp) (v:AV):Rs:=Option.rec (motive:=fun _=>Rs) (.ok s h) (fun d => .ok (.cons d v s) h) d
def Z2y (call:X2) (d:Option Tmp) (f:Option AV) (args:Option (List AV)) (s:Sl) (h:Hp):Rs:=match f with
  | some (.fn g cap)=>match args with
    | some args=>match call.run g (args++cap) h with
      | .ok v h' => val1 d s h' v
      | .bad => .bad
    | none => .bad
  | some (.bfn g first)=>match args with
    | some args=>match call.run g (first++args) h with
      | .ok v h' => val1 d s h' v
      | .bad => .bad
    | none => .bad
  | some (.yld l)=>match args with
    | some args=>match call.yld l args h with
      | .ok v h' => val1 d s h' v
      | .bad => .bad
    | none => .bad
  | _ => .bad
def dfrF (d:Option Tmp) (f:Option AV) (args:Option (List AV)) (s:Sl) (h:Hp):Rs:=match d with
  | some _ => .bad
  | none=>match f with
    | some (.fn g cap)=>match args with
      | some args=>match s.get V8 with
        | some (.tup l) => .ok (.cons V8 (.tup (.fn g (args++cap)::l)) s) h
        | some _ => .bad
        | none => .ok (.cons V8 (.tup [.fn g (args++cap)]) s) h
      | none => .bad
    | _ => .bad
def opA (P:Program) (call:X2) (o:Oper):Fs:=match C4 P o.op with
  | .pure f=>⟨fun s h=>val o.dst s h (f s)⟩
  | .read _ f=>⟨fun s h=>val o.dst s h (f s h)⟩
  | .act f=>⟨fun s h=>match f s h with
    | .ok v h' => val1 o.dst s h' v
    | .bad => .bad⟩
  | .call f xs=>⟨fun s h=>Z2y call o.dst ((opd f).run s) (evs s xs) s h⟩
  | .dfr f xs=>⟨fun s h=>dfrF o.dst ((opd f).run s) (evs s xs) s h⟩
  | .bad=>⟨fun _ _ => .bad⟩

variable {P:Program} {w w' : World} {B:Br} {h h' : Hp} {φ φ' : Mp}

def DRs (φ : Mp):List AV→List Deferred→Prop
  | [],ds=>ds = []
  | a::l,ds => ∃ d r,ds=d::r∧((∃ f xs cap,a = .fn f xs∧d.target = .fn (.func f) cap∧VRs φ xs (d.args.toList++cap.toList)) ∨ (∃ D q,a = .yld D ∧ φ D=some q∧d = {target := .collected q.b,args := #[]}))∧DRs φ l r
def DR (φ : Mp) (v:Option AV) (ds:List Deferred):Prop:=match v with
  | none=>ds = []
  | some (.tup l)=>DRs φ l ds
  | some _=>False
theorem DRs.mono (hh:Le φ φ') : ∀ {l:List AV} {ds:List Deferred},DRs φ l ds→DRs φ' l ds
  | [],ds,h=>h
  | a::l,ds,⟨d,r,h1,.inl ⟨f,xs,cap,h2,h3,h4⟩,h5⟩=>⟨d,r,h1,.inl ⟨f,xs,cap,h2,h3,VRs.mono hh _ _ h4⟩,DRs.mono hh h5⟩
  | a::l,ds,⟨d,r,h1,.inr ⟨D,q,h2,h3,h4⟩,h5⟩=>⟨d,r,h1,.inr ⟨D,q,h2,hh _ _ h3,h4⟩,DRs.mono hh h5⟩
theorem DR.mono (hh:Le φ φ') {v:Option AV} {ds:List Deferred} (h:DR φ v ds):DR φ' v ds:=by
  unfold DR at *
  split at h
  · exact h
  · exact DRs.mono hh h
  · exact h
structure Rel (B:Br) (n:Nat) (φ : Mp) (s:Sl) (h:Hp) (a:Act) (w:World):Prop where
  sr:SR φ s a
  sz:a.tmps.size=n
  dr:DR φ (s.get V8) a.defers
  hr:HR B φ h w
theorem Rel.put {n:Nat} {s:Sl} {a:Act} {d:Option Tmp} {v:AV} {x:Value} (R:Rel B n φ s h a w) (H:HR B φ' h' w') (E:Ev B φ h w φ' h' w') (hv:VR φ' v x) (hd : ∀ t,d=some t→t < n∧t ≠ V8) : ∃ s',val1 d s h' v = .ok s' h' ∧ Rel B n φ' s' h' (a.put d x) w' := by
  cases d with
  | none=>exact⟨s,rfl,⟨R.sr.mono E.le,R.sz,R.dr.mono E.le,H⟩⟩
  | some t =>
    obtain⟨h1,h2⟩:=hd t rfl
    refine⟨_,rfl,⟨(R.sr.mono E.le).put hv (by rw [R.sz]; exact h1),by simp [Act.put,R.sz],?_,H⟩⟩
    rw [Sl.get_cons,if_neg h2]
    exact R.dr.mono E.le

def F7 (B:Br) (P:Program) (call:X2):Prop := ∀ f args h v h',call.run f args h = .ok v h' → ∀ φ w vs,VRs φ args vs→HR B φ h w →
  (∀ w,(callFunc f vs.toArray).run P w = .ok (.enter f vs.toArray) w)∧Calls P f vs.toArray w fun e w' => ∃ φ' x,e = .returned x∧VR φ' v x∧HR B φ' h' w' ∧ Ev B φ h w φ' h' w'

def Did (B:Br) (n:Nat) (φ : Mp) (h:Hp) (w:World) (s' : Sl) (h' : Hp) (a' : Act) (w' : World):Prop := ∃ φ',Rel B n φ' s' h' a' w' ∧ Ev B φ h w φ' h' w'
theorem opOk {n:Nat} {call:X2} {o:Oper} {s s' : Sl} {a:Act} {Q:Exit→Act→World→Prop} (hc:F7 B P call) (hd : ∀ t,o.dst=some t→t < n∧t ≠ V8) (R:Rel B n φ s h a w) (hny:NoY call) (hf:(opA P call o).run s h = .ok s' h') :
    o.wp P a w (fun a' w' => Did B n φ h w s' h' a' w') Q:=by
  unfold opA C4 at hf
  have pv : ∀(v:AV) (x:Value),VR φ v x→val1 o.dst s h v = .ok s' h' → (execOp a.eval o).run P w = .ok (.value x) w→o.wp P a w (fun a' w' => Did B n φ h w s' h' a' w') Q:=by
    intro v x hv h1 h2
    obtain⟨s1,e1,e2⟩:=R.put R.hr .refl hv hd
    have hh:h' = h:=by
      cases hod:o.dst with
      | none=>rw [hod] at h1; cases h1; rfl
      | some t=>rw [hod] at h1; cases h1; rfl
    subst hh
    rw [h1] at e1
    cases e1
    unfold Oper.wp
    rw [h2]
    exact⟨φ,e2,.refl⟩
  split at hf
  · rename_i k hk
    cases hp:Q5q P o.op with
    | some f =>
      rw [hp] at hk
      simp only [Kd.pure.injEq] at hk
      subst hk
      simp only at hf
      cases hv:f s with
      | none=>rw [hv] at hf; cases hf
      | some v =>
        rw [hv] at hf
        obtain⟨x,h1,h2⟩:=pureOk hp R.sr hv
        exact pv v x h1 hf (h2 w)
    | none =>
      rw [hp] at hk
      simp only at hk
      split at hk <;> first | (cases hk; done) | skip
      split at hk <;> first | (cases hk; done) | skip
      split at hk <;> first | (cases hk; done) | skip
      all_goals (split at hk <;> cases hk)
  · rename_i i f hk
    cases hp:Q5q P o.op with
    | some f=>rw [hp] at hk; cases hk
    | none =>
      rw [hp] at hk
      simp only at hk
      cases hr:Q4k P o.op with
      | some r =>
        rw [hr] at hk
        simp only [Kd.read.injEq] at hk
        obtain⟨rfl,rfl⟩:=hk
        simp only at hf
        cases hv:r.f s h with
        | none=>rw [hv] at hf; cases hf
        | some v =>
          rw [hv] at hf
          obtain⟨x,h1,h2⟩:=readOk hr R.sr R.hr hv
          exact pv v x h1 hf (h2 w fun _ _ _ _=>rfl)
      | none =>
        rw [hr] at hk
        simp only at hk
        split at hk <;> first | (cases hk; done) | skip
        split at hk <;> first | (cases hk; done) | skip
        all_goals (split at hk <;> cases hk)
  · rename_i f hk
    cases hp:Q5q P o.op with
    | some f=>rw [hp] at hk; cases hk
    | none =>
      rw [hp] at hk
      simp only at hk
      cases hr:Q4k P o.op with
      | some r=>rw [hr] at hk; cases hk
      | none =>
        rw [hr] at hk
        simp only at hk
        cases ha:Q8i P o.op with
        | some g =>
          rw [ha] at hk
          simp only [Kd.act.injEq] at hk
          subst hk
          simp only at hf
          cases hv:g s h with
          | bad=>rw [hv] at hf; cases hf
          | ok v h1 =>
            rw [hv] at hf
            simp only at hf
            obtain⟨φ1,w1,x,e1,e2,e3,e4⟩:=actOk ha R.sr R.hr hv
            obtain⟨s1,k1,k2⟩:=R.put e3 e4 e2 hd
            rw [hf] at k1
            have hh:h' = h1∧s' = s1:=by cases k1; exact⟨rfl,rfl⟩
            obtain⟨rfl,rfl⟩:=hh
            unfold Oper.wp
            rcases e1 with e1 | ⟨e1,rfl⟩
            · rw [e1]; exact⟨φ1,k2,e4⟩
            · rw [e1]; exact⟨φ1,k2,e4⟩
        | none =>
          rw [ha] at hk
          simp only at hk
          split at hk <;> first | (cases hk; done) | skip
          all_goals (split at hk <;> cases hk)
  · rename_i f xs hk
    have hop : ∃ c,o.op = .call c∧c.callee = .value f∧c.args.toList=xs:=by
      split at hk <;> first | (cases hk; done) | skip
      split at hk <;> first | (cases hk; done) | skip
      split at hk <;> first | (cases hk; done) | skip
      split at hk <;> first | (cases hk; done) | skip
      · rename_i c hc2
        split at hk <;> cases hk
        rename_i hce
        exact⟨c,hc2,hce,rfl⟩
      · split at hk <;> cases hk
    obtain⟨c,hop,hce,rfl⟩:=hop
    simp only [Z2y] at hf
    have go : ∀(g:FuncId) (al:List AV) (vl:List Value) (v:AV) (h1:Hp),call.run g al h = .ok v h1→VRs φ al vl→((∀ w,(callFunc g vl.toArray).run P w = .ok (.enter g vl.toArray) w)→(execOp a.eval o).run P w = .ok (.enter g vl.toArray) w)→val1 o.dst s h1 v = .ok s' h' → o.wp P a w (fun a' w' => Did B n φ h w s' h' a' w') Q:=by
      intro g al vl v h1 hcall hall hrun hf
      obtain⟨q1,q2⟩:=hc _ _ _ _ _ hcall φ w _ hall R.hr
      unfold Oper.wp
      rw [hrun q1,Oper.upon_enter]
      refine q2.mono ?_
      rintro e w1 ⟨φ1,x,rfl,k1,k2,k3⟩
      obtain⟨s1,m1,m2⟩:=R.put k2 k3 k1 hd
      rw [hf] at m1
      have hh:h' = h1∧s' = s1:=by cases m1; exact⟨rfl,rfl⟩
      obtain⟨rfl,rfl⟩:=hh
      exact⟨φ1,m2,k3⟩
    split at hf
    rotate_left
    · rename_i g first hg
      split at hf <;> first | (cases hf; done) | skip
      rename_i args hargs
      split at hf <;> first | (cases hf; done) | skip
      rename_i v h1 hcall
      have hg:=Y3 R.sr hg
      simp only [VR] at hg
      obtain⟨cs,hg,hcs⟩:=hg
      have hall:=hcs.append (Q3p R.sr hargs)
      refine go g _ _ v h1 hcall hall (fun q1 => ?_) hf
      obtain⟨dst,op,ty,pos,aft,gd⟩:=o
      simp only at hop
      subst hop
      have e1:(cs.toList++c.args.toList.map a.eval).toArray=cs++c.args.map a.eval:=by apply Array.ext'; simp
      rw [e1] at q1 ⊢
      simp only [execOp,resolve,hce,hg,Deferred.ofValue,Sem.run_bind,Sem.run_pure,Result.andThen_ok,invoke,Array.append_empty,q1]
    · exfalso
      split at hf <;> first | (cases hf; done) | skip
      rw [hny] at hf
      cases hf
    · cases hf
    rename_i g cap hg
    split at hf <;> first | (cases hf; done) | skip
    rename_i args hargs
    split at hf <;> first | (cases hf; done) | skip
    rename_i v h1 hcall
    have hg:=Y3 R.sr hg
    simp only [VR] at hg
    obtain⟨cs,hg,hcs⟩:=hg
    have hall:=(Q3p R.sr hargs).append hcs
    obtain⟨q1,q2⟩:=hc _ _ _ _ _ hcall φ w _ hall R.hr
    obtain⟨dst,op,ty,pos,aft,gd⟩:=o
    simp only at hop
    subst hop
    unfold Oper.wp
    have hrun:(execOp a.eval ⟨dst,.call c,ty,pos,aft,gd⟩).run P w = .ok (.enter g (c.args.toList.map a.eval++cs.toList).toArray) w:=by
      have e1:(c.args.toList.map a.eval++cs.toList).toArray=c.args.map a.eval++cs:=by apply Array.ext'; simp
      rw [e1] at q1 ⊢
      simp only [execOp,resolve,hce,hg,Deferred.ofValue,Sem.run_bind,Sem.run_pure,Result.andThen_ok,invoke,Array.empty_append,q1]
    rw [hrun,Oper.upon_enter]
    refine q2.mono ?_
    rintro e w1 ⟨φ1,x,rfl,k1,k2,k3⟩
    obtain⟨s1,m1,m2⟩:=R.put k2 k3 k1 hd
    simp only at hf m1
    rw [hf] at m1
    have hh:h' = h1∧s' = s1:=by cases m1; exact⟨rfl,rfl⟩
    obtain⟨rfl,rfl⟩:=hh
    exact⟨φ1,m2,k3⟩
  · rename_i f xs hk
    have hop : ∃ c,o.op = .defer c∧c.callee = .value f∧c.args.toList=xs:=by
      split at hk <;> first | (cases hk; done) | skip
      split at hk <;> first | (cases hk; done) | skip
      split at hk <;> first | (cases hk; done) | skip
      split at hk <;> first | (cases hk; done) | skip
      · split at hk <;> cases hk
      · rename_i c hc2
        split at hk <;> cases hk
        rename_i hce
        exact⟨c,hc2,hce,rfl⟩
    obtain⟨c,hop,hce,rfl⟩:=hop
    simp only [dfrF] at hf
    split at hf <;> first | (cases hf; done) | skip
    rename_i hdst
    split at hf <;> first | (cases hf; done) | skip
    rename_i g cap hg
    split at hf <;> first | (cases hf; done) | skip
    rename_i args hargs
    have hg:=Y3 R.sr hg
    simp only [VR] at hg
    obtain⟨cs,hg,hcs⟩:=hg
    have hall:=(Q3p R.sr hargs).append hcs
    obtain⟨dst,op,ty,pos,aft,gd⟩:=o
    simp only at hop hdst
    subst hop; subst hdst
    unfold Oper.wp
    have hrun:(execOp a.eval ⟨none,.defer c,ty,pos,aft,gd⟩).run P w = .ok (.defer {target := .fn (.func g) cs,args:=c.args.map a.eval}) w:=by
      simp only [execOp,resolve,hce,hg,Deferred.ofValue,Sem.run_bind,Sem.run_pure,Result.andThen_ok,Array.empty_append]
    rw [hrun,Oper.upon_defer]
    have hdr:=R.dr
    have one : ∀(l:List AV) (ds:List Deferred),DRs φ l ds→DRs φ (.fn g (args++cap)::l) ({target := .fn (.func g) cs,args:=c.args.map a.eval} :: ds):=fun l ds hl=>⟨_,ds,rfl,.inl ⟨g,args++cap,cs,rfl,rfl,by simpa using hall⟩,hl⟩
    split at hf <;> first | (cases hf; done) | skip
    · rename_i l hl
      cases hf
      rw [hl] at hdr
      refine⟨φ,⟨R.sr.dfr _,R.sz,?_,R.hr⟩,.refl⟩
      rw [Sl.get_cons,if_pos rfl]
      exact one l _ hdr
    · rename_i hl
      cases hf
      rw [hl] at hdr
      refine⟨φ,⟨R.sr.dfr _,R.sz,?_,R.hr⟩,.refl⟩
      rw [Sl.get_cons,if_pos rfl]
      exact one [] _ hdr
  · cases hf
end
end Go.Proofs.YtecakklofhfphaaGreatDoor.AMX
