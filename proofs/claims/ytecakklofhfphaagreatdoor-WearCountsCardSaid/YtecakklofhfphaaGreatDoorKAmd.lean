/- An evaluator of programs, proved right for whatever the tape draws: functions of the library. It holds for every program. -/
import Derived.Test.YtecakklofhfphaaGreatDoorKAmc
import Derived.Shelf.Strconv.Itoa3
import Derived.Shelf.Strings.Builder1
set_option linter.unusedVariables false
namespace Go.Proofs.YtecakklofhfphaaGreatDoor.AMX
noncomputable section
open Go.RowKit Go.Sort
variable {P:Program} {w w' : World} {B:Br} {h h' h1:Hp} {φ φ' : Mp}

def Z9b (r:Ro) (T:TypeId):Bool:=match r with
  | .whole t=>Nat.beq t T
  | _=>false
def ownB (r:Ro) (T:TypeId):Bool:=match r with
  | .own t=>Nat.beq t T
  | _=>false
theorem Z4i {r:Ro} {T:TypeId} (h:Z9b r T=true):r = .whole T:=by
  cases r <;> first | (cases h; done) | skip
  rw [nb h]
theorem ownB_ok {r:Ro} {T:TypeId} (h:ownB r T=true):r = .own T:=by
  cases r <;> first | (cases h; done) | skip
  rw [nb h]
theorem rvN {b:Bool} {x:Rv} {v:AV} (h:(bif b then x else .bad) = .ok v h'):b=true∧x = .ok v h' := by cases b <;> first | exact⟨rfl,h⟩ | cases h
def cckF (T:TypeId) (args:List AV) (h:Hp):Rv:=match args with
  | [.ptr id off]=>bif Nat.beq off 0 then (match h.tr.get id with
    | some ob=>bif Z9b ob.ro T then (match ob.o with
      | .box [a,x]=>match a with
        | .nilp => .ok (.tup []) (h.put id ob (.box [.ptr id 0,x]))
        | .ptr i o=>bif Nat.beq i id&&Nat.beq o 0 then .ok (.tup []) h else .bad
        | _ => .bad
      | _ => .bad) else .bad
    | none => .bad) else .bad
  | _ => .bad
theorem Z6w {b i:Nat} {c:Array Value} {e:TypeId} {fr:Nat×Nat} (h:w.heap[b]? = some (.cells c e fr)):w.cell? ⟨b,i,none⟩=c[i]? := by simp [World.cell?,h]
theorem cck_ok {T:TypeId} {f:FuncId} (he : ∀ vs w,(callFunc f vs).run P w = .ok (.enter f vs) w)
    (hu : ∀ b w,w.cell? ⟨b,0,none⟩=some (.pointer (some ⟨b,0,none⟩))→Calls P f #[.pointer (some ⟨b,0,none⟩)] w fun e w' => e = .returned (.tuple #[])∧w' = w)
    (hfr : ∀ b w,w.cell? ⟨b,0,none⟩=some (.pointer none)→w.shape? b=some (T,2)→w.frozen? ⟨b,0,none⟩=false→Calls P f #[.pointer (some ⟨b,0,none⟩)] w fun e w' => e = .returned (.tuple #[])∧w' = w.setCell ⟨b,0,none⟩ (.pointer (some ⟨b,0,none⟩)))
    (B:Br) (args:List AV) (h:Hp) (v:AV) (h' : Hp) (hr:cckF T args h = .ok v h'):CallAt B P f args h v h' := by
  intro φ w vs hv H
  refine⟨fun w=>he _ w,?_⟩
  unfold cckF at hr
  split at hr <;> first | (cases hr; done) | skip
  rename_i id off
  have hx:=rvN hr
  clear hr
  obtain⟨h0,hr⟩:=hx
  have h0:=nb h0
  subst h0
  split at hr <;> first | (cases hr; done) | skip
  rename_i ob hob
  have hx:=rvN hr
  clear hr
  obtain⟨hw,hr⟩:=hx
  have hw:=Z4i hw
  split at hr <;> first | (cases hr; done) | skip
  rename_i a x ho
  simp only [VRs,VR] at hv
  obtain⟨_,_,rfl,⟨q,hq,rfl⟩,rfl⟩:=hv
  obtain⟨hB,hor⟩:=H.obj id ob q hob hq
  have hor0:=hor
  rw [hw,ho] at hor
  obtain⟨c,e,fr,k1,⟨rfl,rfl,k3,k4⟩,k5,k6,k7⟩:=hor
  simp only [List.length_cons,List.length_nil] at k4 k7
  obtain⟨a0,x0,l1,l2,l3,l4⟩:=k7 0 (by omega)
  obtain⟨a1,x1,m1,m2,m3,m4⟩:=k7 1 (by omega)
  simp only [List.getElem?_cons_zero,Option.some.injEq,List.getElem?_cons_succ] at l1 m1
  subst l1; subst m1
  rw [k3,Nat.add_zero] at l2
  rw [k3,Nat.zero_add] at m2
  simp only [k3,Nat.add_zero]
  have hc0:w.cell? ⟨q.b,0,none⟩=some x0:=by rw [Z6w k1,l2]
  split at hr <;> first | (cases hr; done) | skip
  · cases hr
    simp only [VR] at l3
    subst l3
    refine(hfr q.b w hc0 (by simp [World.shape?,k1]; omega) (by simp [World.frozen?,k1])).mono ?_
    rintro ee w' ⟨rfl,rfl⟩
    refine⟨φ,_,rfl,by simp only [VR,VRs]; exact⟨#[],rfl,rfl⟩,?_⟩
    rw [setCell_eq_setRow w q.b 0 c e (0,0) _ k1]
    refine H.turn hob hq (Wv.row _ _ hB) (fun k hk=>setRow_other w q.b k _ hk) ?_
    rw [setRow_heap w q.b c _ e (0,0) k1,hw]
    refine⟨_,e,(0,0),rfl,⟨rfl,rfl,k3,by simpa using k4⟩,by simpa using k5,by simpa using k6,fun j hj => ?_⟩
    simp only [List.length_cons,List.length_nil] at hj
    rcases Nat.lt_or_ge j 1 with hj1 | hj1
    · have:j=0:=by omega
      subst this
      refine⟨.ptr id 0,.pointer (some ⟨q.b,0,none⟩),rfl,?_,?_,rfl⟩
      · rw [k3,Array.getElem?_setIfInBounds]
        simp only [Nat.add_zero,if_true]
        rw [if_pos (by omega)]
      · simp only [VR]
        exact⟨q,hq,by rw [k3]⟩
    · have:j=1:=by omega
      subst this
      refine⟨_,x1,rfl,?_,m3,m4⟩
      rw [k3,← m2]
      simp
  · have hx:=rvN hr
    clear hr
    obtain⟨h1,hr⟩:=hx
    cases hr
    obtain⟨h1,h2⟩:=X0 h1
    have h1:=nb h1
    have h2:=nb h2
    subst h1; subst h2
    simp only [VR] at l3
    obtain⟨q',hq',rfl⟩:=l3
    rw [hq] at hq'
    cases hq'
    rw [k3] at hc0
    refine(hu q.b w hc0).mono ?_
    rintro ee w' ⟨rfl,rfl⟩
    exact⟨φ,_,rfl,by simp only [VR,VRs]; exact⟨#[],rfl,rfl⟩,H,.refl⟩

/-! ## String -/
def Z6x:List (List AV)→Option (List UInt8)
  | []=>some []
  | c::r=>match c with
    | [.int .u8 (.ofNat k)]=>bif Nat.blt k 256 then (match Z6x r with
      | some l=>some (UInt8.ofNat k::l)
      | none=>none) else none
    | _=>none
theorem Z5f : ∀ {els:List (List AV)} {l:List UInt8},Z6x els=some l→els=l.map fun c => [AV.int .u8 (.ofNat c.toNat)]
  | [],l,hl=>by cases hl; rfl
  | c::r,l,hl=>by
    unfold Z6x at hl
    split at hl <;> first | (cases hl; done) | skip
    rename_i k
    obtain⟨hb,hl⟩:=cN hl
    have hb:k < 256:=Nat.le_of_ble_eq_true hb
    split at hl <;> first | (cases hl; done) | skip
    rename_i l' hl'
    cases hl
    rw [Z5f hl']
    simp only [List.map_cons,UInt8.toNat_ofNat']
    rw [Nat.mod_eq_of_lt (by simpa using hb)]
def strF (T E:TypeId) (args:List AV) (h:Hp):Rv:=match args with
  | [.ptr id off]=>bif Nat.beq off 0 then (match h.tr.get id with
    | some ob=>bif Z9b ob.ro T then (match ob.o with
      | .box [_,x]=>match x with
        | .nils => .ok (.str []) h
        | .sl g o n _ z=>bif Nat.beq o 0&&(Nat.blt 0 n&&(Nat.ble n 8589934592&&Nat.beq z 1)) then (match h.tr.get g with
          | some og=>bif ownB og.ro E then (match Q9y og.o 0 1 n with
            | some els=>match Z6x els with
              | some l => .ok (.str l) ⟨h.next,h.tr.set g ⟨og.ver+1,.ro,og.o⟩⟩
              | none => .bad
            | none => .bad) else .bad
          | none => .bad) else .bad
        | _ => .bad
      | _ => .bad) else .bad
    | none => .bad) else .bad
  | _ => .bad
theorem freezeN {b n:Nat} {c:Array Value} {e:TypeId} (hn:n ≠ 0) (hb:w.heap[b]? = some (.cells c e (0,0))):(w.freeze ⟨b,0,none⟩ n).heap[b]? = some (.cells c e (0,n)):=by
  have hlt:b < w.heap.size:=(Array.getElem?_eq_some_iff.1 hb).1
  have hv:w.heap[b] = .cells c e (0,0):=(Array.getElem?_eq_some_iff.1 hb).2
  unfold World.freeze
  rw [if_neg hn]
  rw [Array.getElem?_eq_getElem (by simpa using hlt),Array.getElem_modify]
  simp [hv]
theorem Y1f {b n k:Nat} (hn:n ≠ 0) (hk:k ≠ b):(w.freeze ⟨b,0,none⟩ n).heap[k]? = w.heap[k]? := by
  unfold World.freeze
  rw [if_neg hn]
  simp [Array.getElem?_modify,Ne.symm hk]
theorem freezeW {b n:Nat} (hn:n ≠ 0) (hB : ¬ B b):Wv B w (w.freeze ⟨b,0,none⟩ n):=by
  refine⟨?_,?_,?_,?_,fun k hk=>Y1f hn fun e=>hB (e ▸ hk)⟩ <;> unfold World.freeze <;> rw [if_neg hn]
  simp
theorem str_ok {T E:TypeId} {f:FuncId} (he : ∀ vs w,(callFunc f vs).run P w = .ok (.enter f vs) w)
    (hn : ∀ b w,w.cell? ⟨b,1,none⟩=some (.slice none 0 0)→Calls P f #[.pointer (some ⟨b,0,none⟩)] w fun e w' => e = .returned (.string ⟨#[]⟩)∧w' = w.drew)
    (hs : ∀ b g cap (l:List UInt8) cur w,w.cell? ⟨b,1,none⟩=some (.slice (some ⟨g,0,none⟩) l.length cap)→w.heap[g]? = some (.cells cur E (0,0))→l ≠ []→l.length≤cap→l.length≤cur.size→l.length≤9223372036854775807 →
      (∀ j x,l[j]? = some x→w.cell? ⟨g,j,none⟩=some (.int .u8 x.toNat))→Calls P f #[.pointer (some ⟨b,0,none⟩)] w fun e w' => e = .returned (.string ⟨l.toArray⟩)∧w' = w.drew.freeze ⟨g,0,none⟩ l.length)
    (B:Br) (args:List AV) (h:Hp) (v:AV) (h' : Hp) (hr:strF T E args h = .ok v h'):CallAt B P f args h v h' := by
  intro φ w vs hv H
  refine⟨fun w=>he _ w,?_⟩
  unfold strF at hr
  split at hr <;> first | (cases hr; done) | skip
  rename_i id off
  have hx:=rvN hr
  clear hr
  obtain⟨h0,hr⟩:=hx
  have h0:=nb h0
  subst h0
  split at hr <;> first | (cases hr; done) | skip
  rename_i ob hob
  have hx:=rvN hr
  clear hr
  obtain⟨hw,hr⟩:=hx
  have hw:=Z4i hw
  split at hr <;> first | (cases hr; done) | skip
  rename_i a x ho
  simp only [VRs,VR] at hv
  obtain⟨_,_,rfl,⟨q,hq,rfl⟩,rfl⟩:=hv
  obtain⟨hB,hor⟩:=H.obj id ob q hob hq
  rw [hw,ho] at hor
  obtain⟨c,e,fr,k1,⟨rfl,rfl,k3,k4⟩,k5,k6,k7⟩:=hor
  simp only [List.length_cons,List.length_nil] at k4 k7
  obtain⟨a1,x1,m1,m2,m3,m4⟩:=k7 1 (by omega)
  simp only [List.getElem?_cons_zero,Option.some.injEq,List.getElem?_cons_succ] at m1
  subst m1
  rw [k3,Nat.zero_add] at m2
  simp only [k3,Nat.add_zero]
  have hc1:w.cell? ⟨q.b,1,none⟩=some x1:=by rw [Z6w k1,m2]
  split at hr <;> first | (cases hr; done) | skip
  · cases hr
    simp only [VR] at m3
    subst m3
    refine(hn q.b w hc1).mono ?_
    rintro ee w' ⟨rfl,rfl⟩
    exact⟨φ,_,rfl,by simp only [VR],H.drew,.drew⟩
  · rename_i g o n cp z
    have hx:=rvN hr
    clear hr
    obtain⟨hb,hr⟩:=hx
    obtain⟨b1,hb⟩:=X0 hb
    obtain⟨b2,hb⟩:=X0 hb
    obtain⟨b3,b4⟩:=X0 hb
    have b1:=nb b1
    have b4:=nb b4
    subst b1; subst b4
    have b2:0 < n:=Nat.le_of_ble_eq_true b2
    have b3:=Nat.le_of_ble_eq_true b3
    split at hr <;> first | (cases hr; done) | skip
    rename_i og hog
    have hx:=rvN hr
    clear hr
    obtain⟨hown,hr⟩:=hx
    have hown:=ownB_ok hown
    split at hr <;> first | (cases hr; done) | skip
    rename_i els hels
    split at hr <;> first | (cases hr; done) | skip
    rename_i l hl
    cases hr
    have hl:=Z5f hl
    obtain⟨p1,p2,p3,p4⟩:=W6 hels
    have hln:l.length=n:=by rw [hl] at p1; simpa using p1
    simp only [VR] at m3
    obtain⟨q2,cc,o2,hq2,rfl,ho2,hlc,_,hfit⟩:=m3
    obtain⟨hB2,hor2⟩:=H.obj g og q2 hog hq2
    rw [hown] at hor2
    have hcel:og.o.cel=true:=by
      have:=p3 b2 (by decide)
      cases hh:og.o <;> rw [hh] at this <;> first | rfl | skip
      all_goals
        simp only [X6.n] at this
        omega
    have hor3:=hor2
    obtain⟨cur,e2,fr2,r1,⟨rfl,rfl,r3⟩,r4,r5,r6⟩:=(OR.cells hcel).1 hor2
    have ho2:=ho2 (.inl (by omega))
    rw [r3,Nat.zero_add] at ho2
    subst ho2
    have hle:=p3 b2 (by decide)
    have hcur:n≤cur.size:=by omega
    rw [← hln] at hc1
    have hne:l ≠ []:=by intro e; rw [e] at hln; simp at hln; omega
    refine(hs q.b q2.b cc l cur w hc1 r1 hne (by omega) (by omega) (by omega) fun j x hj => ?_).mono ?_
    · have hjl:j < l.length:=(List.getElem?_eq_some_iff.1 hj).1
      obtain⟨a,y,s1,s2,s3,_⟩:=r6 j (by omega)
      have:=p4 j (by omega)
      rw [Nat.zero_add,s1,hl,flat1] at this
      simp only [List.getElem?_map,hj,Option.map_some,Option.some.injEq] at this
      subst this
      simp only [VR] at s3
      subst s3
      rw [r3,Nat.zero_add] at s2
      rw [Z6w r1,s2]
      rfl
    · rintro ee w' ⟨rfl,rfl⟩
      have hl0:l.length ≠ 0:=by omega
      have hd:(w.drew).heap[q2.b]? = some (.cells cur e2 (0,0)):=r1
      obtain⟨t1,t2⟩:=H.drew.turnR (w' := w.drew.freeze ⟨q2.b,0,none⟩ l.length) .ro (o' := og.o) hog hq2 (freezeW hl0 hB2) (fun k hk=>Y1f hl0 hk) (by
        rw [freezeN hl0 hd]
        exact(OR.cells hcel).2 ⟨cur,e2,_,rfl,trivial,r4,r5,r6⟩)
      exact⟨φ,_,rfl,by simp only [VR],t1,Ev.drew.trans t2⟩
/-! ## Decimals -/
def digs:Nat→Nat→List UInt8→List UInt8
  | 0,_,acc=>acc
  | f+1,u,acc=>bif Nat.blt u 10 then UInt8.ofNat (48+u)::acc else digs f (u / 10) (UInt8.ofNat (48+u % 10)::acc)
def itoaF (args:List AV) (h:Hp):Rv:=match args with
  | [.int .i64 (.ofNat n)]=>bif Nat.ble n 9223372036854775807 then .ok (.str (digs 20 n [])) h else .bad
  | [.int .i64 (.negSucc n)]=>bif Nat.ble n 9223372036854775807 then .ok (.str (45::digs 20 (n+1) [])) h else .bad
  | _ => .bad
theorem HR.below (H:HR B φ h w) (b:Below w.heap.size w w'):HR B φ h w' ∧ Ev B φ h w φ h w' := by
  have hw:Wv B w w' := ⟨b.os,b.tape,b.output,b.size,fun k hk=>b.block k (H.le k hk)⟩
  have hob : ∀ i ob q,h.tr.get i=some ob → φ i=some q→w'.heap[q.b]? = w.heap[q.b]? := fun i ob q hi hq=>b.block _ (H.obj i ob q hi hq).2.lt
  refine⟨⟨H.next,H.bd,fun i ob q hi hq => ?_,H.inj,fun k hk=>Nat.lt_of_lt_of_le (H.le k hk) b.size,B.keep _ _ hw H.inv⟩,⟨hw,.refl,Nat.le_refl _,fun _ _=>rfl,fun i ob' _ hi=>⟨ob',hi,Nat.le_refl _,fun _=>⟨rfl,fun q hq=>hob i ob' q hi hq⟩⟩⟩⟩
  obtain⟨h1,h2⟩:=H.obj i ob q hi hq
  rw [hob i ob q hi hq]
  exact⟨h1,h2⟩
theorem Z6s : ∀(f u:Nat) (acc:List UInt8),u < 10 ^ f→0 < f→digs f u acc=Lib.decDigits u++acc
  | 0,u,acc,_,h0=>absurd h0 (by decide)
  | f+1,u,acc,h,_=>by
    rw [Lib.decDigits]
    unfold digs
    by_cases hu:u < 10
    · rw [dif_pos hu]
      have:Nat.blt u 10=true:=Nat.ble_eq_true_of_le hu
      rw [this]
      rfl
    · rw [dif_neg hu]
      have:Nat.blt u 10=false:=by
        cases hb:Nat.blt u 10 with
        | false=>rfl
        | true=>exact absurd (Nat.le_of_ble_eq_true hb) hu
      rw [this]
      rw [Nat.pow_succ] at h
      have hf:0 < f:=by
        rcases Nat.eq_zero_or_pos f with h0 | h0
        · subst h0; simp at h; omega
        · exact h0
      simp only [cond_false]
      rw [Z6s f (u / 10) _ (by omega) hf,List.append_assoc]
      rfl
theorem itoa_ok {f:FuncId} {Tab:World→Prop} (he : ∀ vs w,(callFunc f vs).run P w = .ok (.enter f vs) w)
    (hi : ∀(n:Int) w,-9223372036854775808≤n→n≤9223372036854775807→Tab w→Calls P f #[.int .i64 n] w fun e w' => e = .returned (.string ⟨(Lib.itoa n).toArray⟩) ∧ ∃ k os,w' = grow (w.drewN k) os)
    (B:Br) (hB : ∀ w,B.I w→Tab w) (args:List AV) (h:Hp) (v:AV) (h' : Hp) (hr:itoaF args h = .ok v h'):CallAt B P f args h v h' := by
  intro φ w vs hv H
  refine⟨fun w=>he _ w,?_⟩
  unfold itoaF at hr
  split at hr <;> first | (cases hr; done) | skip
  · rename_i n
    obtain⟨hn,hr⟩:=rvN hr
    cases hr
    have hn:=Nat.le_of_ble_eq_true hn
    simp only [VRs,VR] at hv
    obtain⟨_,_,rfl,rfl,rfl⟩:=hv
    refine(hi (Int.ofNat n) w (by simp only [Int.ofNat_eq_natCast]; omega) (by simp only [Int.ofNat_eq_natCast]; omega) (hB w H.inv)).mono ?_
    rintro e w' ⟨rfl,k,os,rfl⟩
    obtain⟨h1,h2⟩:=H.below (w' := grow (w.drewN k) os) (⟨rfl,rfl,rfl,by show w.heap.size≤(w.heap++os).size; rw [Array.size_append]; omega,fun j hj=>by show (w.heap++os)[j]? = _; rw [Array.getElem?_append_left hj]⟩)
    refine⟨φ,_,rfl,?_,h1,h2⟩
    simp only [VR]
    have:Lib.itoa (Int.ofNat n)=Lib.decDigits n:=by
      unfold Lib.itoa
      rw [if_neg (by simp)]
      rfl
    rw [this,Z6s 20 n [] (by omega) (by decide),List.append_nil]
  · rename_i n
    obtain⟨hn,hr⟩:=rvN hr
    cases hr
    have hn:=Nat.le_of_ble_eq_true hn
    simp only [VRs,VR] at hv
    obtain⟨_,_,rfl,rfl,rfl⟩:=hv
    refine(hi (Int.negSucc n) w (by omega) (by omega) (hB w H.inv)).mono ?_
    rintro e w' ⟨rfl,k,os,rfl⟩
    obtain⟨h1,h2⟩:=H.below (w' := grow (w.drewN k) os) (⟨rfl,rfl,rfl,by show w.heap.size≤(w.heap++os).size; rw [Array.size_append]; omega,fun j hj=>by show (w.heap++os)[j]? = _; rw [Array.getElem?_append_left hj]⟩)
    refine⟨φ,_,rfl,?_,h1,h2⟩
    simp only [VR]
    have:Lib.itoa (Int.negSucc n)=45::Lib.decDigits (n+1):=by
      unfold Lib.itoa
      rw [if_pos (Int.negSucc_lt_zero n)]
      rfl
    rw [this,Z6s 20 (n+1) [] (by omega) (by decide),List.append_nil]
end
end Go.Proofs.YtecakklofhfphaaGreatDoor.AMX
namespace Go.Proofs.YtecakklofhfphaaGreatDoor.AMX
noncomputable section
open Go.Shelf Go.RowKit
variable {P:Program} {ρ : Ren}

set_option maxHeartbeats 2000000 in
set_option maxRecDepth 100000 in
theorem Y3b (L:Lays.n169 P ρ) (X:Builder.Extra P ρ) (b g cap:Nat) (l:List UInt8) (cur:Array Value) (w:World) (d1:w.cell? ⟨b,1,none⟩=some (.slice (some ⟨g,0,none⟩) l.length cap)) (hg:w.heap[g]? = some (.cells cur (ρ.t 5) (0,0)))
    (h0:l ≠ []) (hc:l.length≤cap) (hs:l.length≤cur.size) (hm:l.length≤9223372036854775807) (hcell : ∀ j x,l[j]? = some x→w.cell? ⟨g,j,none⟩=some (.int .u8 x.toNat)) :
    Calls P (ρ.f 169) #[.pointer (some ⟨b,0,none⟩)] w fun e w' => e = .returned (.string ⟨l.toArray⟩)∧w' = w.drew.freeze ⟨g,0,none⟩ l.length:=by
  have hl0:l.length ≠ 0:=by simpa using h0
  have c1:w.drew.cell? ⟨b,1,none⟩=some (.slice (some ⟨g,0,none⟩) l.length cap):=d1
  have hSD:(Builtin.unsafeSliceData_ #[(ρ.t 37)] (ρ.t 127) #[.slice (some ⟨g,0,none⟩) l.length cap]).run P w.drew = .ok (.pointer (some ⟨g,0,none⟩)) w.drew :=
    Lib.run_unsafeSliceData_row _ _ _ _ _ _ (by omega)
  have hUS:(Builtin.unsafeString_ #[(ρ.t 127),(ρ.t 3)] (ρ.t 9) #[.pointer (some ⟨g,0,none⟩),.int .i64 l.length]).run P w.drew = .ok (.string ⟨l.toArray⟩) (w.drew.freeze ⟨g,0,none⟩ l.length):=by
    refine Lib.run_unsafeString_row w.drew (ρ.t 127) (ρ.t 3) (ρ.t 9) (ρ.t 5) L.t127 X.cellsByte g cur.size (by have hg' : w.drew.heap[g]? = some (.cells cur (ρ.t 5) (0,0)):=hg; simp [World.shape?,hg']) l h0 (by omega) (by omega) ?_
    intro j x hx
    rw [show (⟨g,0,none⟩:Addr).add j=⟨g,j,none⟩ by simp [Addr.add]; exact fun h=>h.symm]
    exact hcell j x hx
  have mixed:=L.mixed
  have t72:=L.t72; have a72:=L.a72; have z72:=L.z72; have v72:=L.v72; have u72:=run_underlying L.t72
  have t70:=L.t70; have a70:=L.a70; have z70:=L.z70; have v70:=L.v70; have u70:=run_underlying L.t70
  have t37:=L.t37; have a37:=L.a37; have z37:=L.z37; have v37:=L.v37; have u37:=run_underlying L.t37
  have t127:=L.t127; have a127:=L.a127; have z127:=L.z127; have v127:=L.v127; have u127:=run_underlying L.t127
  have t3:=L.t3; have a3:=L.a3; have z3:=L.z3; have v3:=L.v3; have u3:=run_underlying L.t3
  have t9:=L.t9; have a9:=L.a9; have z9:=L.z9; have v9:=L.v9; have u9:=run_underlying L.t9
  have t5:=X.t5; have a5:=X.a5; have z5:=X.z5; have v5:=X.v5; have u5:=run_underlying X.t5
  go_enter L.f169,Body.n169_ntmps ρ
  go_wp2
  go_region_o
  all_goals (go_wp2; go_ret; exact⟨rfl,rfl⟩)
set_option maxHeartbeats 2000000 in
set_option maxRecDepth 100000 in
theorem Y3c (L:Lays.n169 P ρ) (X:Builder.Extra P ρ) (b:Nat) (w:World) (d1:w.cell? ⟨b,1,none⟩=some (.slice none 0 0)) :
    Calls P (ρ.f 169) #[.pointer (some ⟨b,0,none⟩)] w fun e w' => e = .returned (.string ⟨#[]⟩)∧w' = w.drew:=by
  have hUS:=Any.unsafeString_none L X
  have c1:w.drew.cell? ⟨b,1,none⟩=some (.slice none 0 0):=d1
  have hSD:(Builtin.unsafeSliceData_ #[(ρ.t 37)] (ρ.t 127) #[.slice none 0 0]).run P w.drew = .ok (.pointer none) w.drew:=rfl
  have mixed:=L.mixed
  have t72:=L.t72; have a72:=L.a72; have z72:=L.z72; have v72:=L.v72; have u72:=run_underlying L.t72
  have t70:=L.t70; have a70:=L.a70; have z70:=L.z70; have v70:=L.v70; have u70:=run_underlying L.t70
  have t37:=L.t37; have a37:=L.a37; have z37:=L.z37; have v37:=L.v37; have u37:=run_underlying L.t37
  have t127:=L.t127; have a127:=L.a127; have z127:=L.z127; have v127:=L.v127; have u127:=run_underlying L.t127
  have t3:=L.t3; have a3:=L.a3; have z3:=L.z3; have v3:=L.v3; have u3:=run_underlying L.t3
  have t9:=L.t9; have a9:=L.a9; have z9:=L.z9; have v9:=L.v9; have u9:=run_underlying L.t9
  have t5:=X.t5; have a5:=X.a5; have z5:=X.z5; have v5:=X.v5; have u5:=run_underlying X.t5
  go_enter L.f169,Body.n169_ntmps ρ
  go_wp2
  go_region_o
  all_goals (go_wp2; go_ret; exact⟨rfl,rfl⟩)
def Pow10 (P : Program) (B : Br) : Prop := ∀ w, B.I w → Lib.TabIs P w "internal/strconv.uint64pow10" .u64 Lib.pow10Tab
def bldPm (ρ : Ren):List Pm := [⟨ρ.f 240,cckF (ρ.t 72)⟩,⟨ρ.f 169,strF (ρ.t 72) (ρ.t 5)⟩,⟨ρ.f 243,itoaF⟩]
theorem bldPm_ok (L1:Lays.n240 P ρ) (L2:Lays.n169 P ρ) (L3:LaysM.n243 P ρ) (X:Builder.Extra P ρ):PmOk (Pow10 P) P (bldPm ρ):=by
  have e1 : ∀ vs w,(callFunc (ρ.f 240) vs).run P w = .ok (.enter (ρ.f 240) vs) w:=enters_of L1.f240 (by kernel_rfl) rfl
  have e2 : ∀ vs w,(callFunc (ρ.f 169) vs).run P w = .ok (.enter (ρ.f 169) vs) w:=enters_of L2.f169 (by kernel_rfl) rfl
  have e3 : ∀ vs w,(callFunc (ρ.f 243) vs).run P w = .ok (.enter (ρ.f 243) vs) w:=enters_of L3.f243 (by kernel_rfl) rfl
  refine Q7a (fun B hB args h v h' hr => ?_) (Q7a (fun B hB args h v h' hr => ?_) (Q7a (fun B hB args h v h' hr => ?_) pm_nil))
  · exact cck_ok e1 (fun b w=>Any.Builder_copyCheck_used L1 X.toX72 b w) (fun b w=>Any.Builder_copyCheck_fresh L1 X.toX72 b w) B args h v h' hr
  · exact str_ok e2 (fun b w=>Y3c L2 X b w) (fun b g cap l cur w=>Y3b L2 X b g cap l cur w) B args h v h' hr
  · exact itoa_ok (Tab := fun w => Lib.TabIs P w "internal/strconv.uint64pow10" .u64 Lib.pow10Tab) e3 (fun n w h0 h1 => Any.internal_strconv_Itoa L3 n h0 h1 w) B hB args h v h' hr
end
end Go.Proofs.YtecakklofhfphaaGreatDoor.AMX
