/- Plain laws: no program is in sight here. -/
import Derived.Test.YtbolaohekbmndaaGreatDoorM
import Derived.Test.YtbolaohekbmndaaGreatDoorLoop
import Derived.Lib.IndexBytes
set_option linter.unusedVariables false
namespace Go.Proofs.YtbolaohekbmndaaGreatDoor
theorem bnd {α β : Type} {m:Option α} {x : α} {f : α → Option β} {X:Option β} (h:m=some x) (k:f x=X):m.bind f=X:=by subst h; exact k
theorem exb {α β : Type} {m:Option α} {x : α} {f : α → Option β} {p : β → Prop} (h:m=some x) (k : ∃ y,f x=some y∧p y) : ∃ y,m.bind f=some y∧p y:=by subst h; exact k
def letB (n:Int):Bool:=(decide (97≤n)&&decide (n≤122)) || (decide (65≤n)&&decide (n≤90)) || n == 95
def digB (n:Int):Bool:=decide (48≤n)&&decide (n≤57)
def L0 (c:UInt8):Bool:=letB (c.toNat:Int) || digB (c.toNat:Int)
theorem Z3a (n:Int):Q2t n=some (letB n):=by
  unfold Q2t letB
  cases decide (97≤n) <;> cases decide (n≤122) <;> cases decide (65≤n) <;> cases decide (n≤90) <;> rfl
theorem Z2a (n:Int):Q2u n=some (digB n):=by
  unfold Q2u digB
  cases decide (48≤n) <;> rfl
theorem more_eq (c:UInt8):Q6z (c.toNat:Int)=some (L0 c):=by
  unfold Q6z L0
  rw [Z3a,Option.bind_some]
  cases letB (c.toNat:Int) with
  | true=>rfl
  | false=>rw [cond_false,Z2a]; rfl
/-- How many first elements are so. -/
def sp (p:UInt8→Bool):List UInt8→Nat
  | []=>0
  | x::l=>if p x then sp p l+1 else 0
theorem Q9b (p:UInt8→Bool) : ∀ l,sp p l≤l.length
  | []=>Nat.le_refl _
  | x::l=>by
    have:=Q9b p l
    unfold sp
    split
    · simp; omega
    · omega
theorem Z5n (p:UInt8→Bool) : ∀(l:List UInt8) (k:Nat) (h:k < sp p l),p (l[k]'(Nat.lt_of_lt_of_le h (Q9b p l)))=true
  | [],k,h=>by simp [sp] at h
  | x::l,0,h=>by
    unfold sp at h
    split at h
    · assumption
    · omega
  | x::l,k+1,h=>by
    have h' := h
    unfold sp at h'
    split at h'
    · simpa using Z5n p l k (by omega)
    · omega
theorem Z6g (p:UInt8→Bool) : ∀(l:List UInt8) (h:sp p l < l.length),p l[sp p l]=false
  | [],h=>by simp at h
  | x::l,h=>by
    by_cases hx:p x=true
    · have e:sp p (x::l)=sp p l+1:=by show (if p x then sp p l+1 else 0)=_; rw [if_pos hx]
      have h2:sp p l < l.length:=by rw [e] at h; simp at h; omega
      have:=Z6g p l h2
      simp only [e,List.getElem_cons_succ]
      exact this
    · have e:sp p (x::l)=0:=by show (if p x then sp p l+1 else 0)=_; rw [if_neg hx]
      simp only [e,List.getElem_cons_zero]
      simpa using hx
theorem Z6h (p:UInt8→Bool) (l:List UInt8) (hl:l.length < 4611686018427387904) {body:Int→Option (Lp Int Unit)} {A:Type} {K:Lp Int Unit→Option A} {X:Option A}
    (h1 : ∀ k (h:k < l.length),body (k:Int)=some (bif p l[k] then .go (IntKind.wrap .i64 ((k:Int)+1)) else .brk (k:Int))) (h2:body (l.length:Int)=some (.brk (l.length:Int)))
    (hX:K (.brk ((sp p l:Nat):Int))=X):(V7 body NN 0).bind K=X:=by
  have hle:=Q9b p l
  refine run_bind (fun k=>(k:Int)) (sp p l) (.brk ((sp p l:Nat):Int)) rfl (by omega) (fun k hk => ?_) ?_ trivial hX
  · rw [h1 k (by omega),Z5n p l k hk,cond_true,w64 (by omega)]
    congr 2
  · by_cases h:sp p l < l.length
    · rw [h1 _ h,Z6g p l h,cond_false]
    · rw [show sp p l=l.length by omega]
      exact h2
theorem Z1l (l:List UInt8) (hl:l.length < 4611686018427387904):Q1r l=some ((sp L0 l:Nat):Int):=by
  unfold Q1r
  refine Z6h L0 l hl (fun k hk => ?_) (by rw [c0 (dge _)]) rfl
  rw [c1 (dlt hk),N8 hk,Option.bind_some,more_eq,Option.bind_some]
  cases L0 l[k] <;> rfl
def words:List (List UInt8) := [([98,114,101,97,107]:List UInt8),([99,97,115,101]:List UInt8),([99,104,97,114]:List UInt8),([99,111,110,116,105,110,117,101]:List UInt8),([100,101,102,97,117,108,116]:List UInt8),([100,111]:List UInt8),([101,108,115,101]:List UInt8),([102,111,114]:List UInt8),([105,102]:List UInt8),([105,110]:List UInt8),([105,110,116]:List UInt8),([111,117,116]:List UInt8),([114,101,116,117,114,110]:List UInt8),([115,105,122,101,111,102]:List UInt8),([115,116,114,117,99,116]:List UInt8),([115,119,105,116,99,104]:List UInt8),([118,111,105,100]:List UInt8),([119,104,105,108,101]:List UInt8)]
def wordB (p:List UInt8):Bool:=words.any fun w=>decide (p=w)
theorem wd1 (b:Bool) (X:Option Bool):(bif b then (bif b then some true else some false) else X)=bif b then some true else X:=by cases b <;> rfl
theorem wd2 (b x:Bool):(bif b then some true else some x)=some (b || x):=by cases b <;> rfl
theorem wd3 (b:Bool):(bif b then some true else some false)=some b:=by cases b <;> rfl
theorem wd4 (b x:Bool):(bif b then some b else some x)=some (b || x):=by cases b <;> rfl
theorem Z6v (p:List UInt8):Q4n p=some (wordB p):=by
  unfold Q4n wordB words
  simp only [jn,wd1,wd3,wd4,List.any_cons,List.any_nil,Bool.or_false]
theorem Q8z {b:List UInt8} {n:Nat} (h:n≤b.length):sub b (n:Int) (b.length:Int)=some (b.drop n):=by
  unfold sub
  rw [if_pos (by omega)]
  simp
theorem Q6t {b:List UInt8} {n:Nat} (h:n≤b.length):sub b 0 (n:Int)=some (b.take n):=by
  unfold sub
  rw [if_pos (by omega)]
  simp
theorem Z4w (s p:List UInt8):P1 s p=some (decide (p <+: s)):=by
  unfold P1 O9
  by_cases h:p.length≤s.length
  · rw [c1 (dt (by omega)),Q6t h,Option.bind_some,Option.bind_some]
    congr 1
    refine decide_eq_decide.2 ⟨fun e=>List.prefix_iff_eq_take.2 e.symm,fun e=>(List.prefix_iff_eq_take.1 e).symm⟩
  · rw [c0 (df (by omega)),df (fun e=>h e.length_le)]
    rfl
def blB (c:UInt8):Bool:=(c.toNat:Int) == 32 || (c.toNat:Int) == 9 || (c.toNat:Int) == 10 || (c.toNat:Int) == 13
theorem Z7t (c:UInt8):Q3l (c.toNat:Int)=some (blB c):=by
  unfold Q3l blB
  cases((c.toNat:Int) == 32) <;> cases ((c.toNat:Int) == 9) <;> cases ((c.toNat:Int) == 10) <;> rfl
theorem span_eq (l:List UInt8) (hl:l.length < 4611686018427387904):Q6y l=some ((sp blB l:Nat):Int):=by
  unfold Q6y
  refine Z6h blB l hl (fun k hk => ?_) (by rw [c0 (dge _)]) rfl
  rw [c1 (dlt hk),N8 hk,Option.bind_some,Z7t,Option.bind_some]
  cases blB l[k] <;> rfl
/-- How many bytes are blank, or a remark; below 0: a remark has no end. -/
def blS (s:List UInt8):Int :=
  if [47,47] <+: s then (if 0≤Go.Lib.index s [10] then Go.Lib.index s [10] else s.length)
  else if [47,42] <+: s then (if Go.Lib.index (s.drop 2) [42,47] < 0 then -1 else Go.Lib.index (s.drop 2) [42,47]+4) else ((sp blB s:Nat):Int)
theorem Z4v : ∀(s sub:List UInt8),sub ≠ []→0≤Go.Lib.index s sub→Go.Lib.index s sub+sub.length≤s.length
  | [],sub,hn,h=>by
    unfold Go.Lib.index at h
    rw [if_neg (by simpa using hn)] at h
    omega
  | b::l,sub,hn,h=>by
    unfold Go.Lib.index at h ⊢
    by_cases h1:sub.isPrefixOf (b::l)=true
    · rw [if_pos h1]
      have:=(List.isPrefixOf_iff_prefix.1 h1).length_le
      omega
    · rw [if_neg h1] at h ⊢
      by_cases h2:(Go.Lib.index l sub == -1)=true
      · rw [if_pos h2] at h; omega
      · rw [if_neg h2] at h ⊢
        have hge:=Go.Lib.index_ge l sub
        have hne:Go.Lib.index l sub ≠ -1:=by simpa using h2
        have:=Z4v l sub hn (by omega)
        simp
        omega
theorem Q9m (s:List UInt8) (hl:s.length≤100000):Q3y s=some (blS s)∧blS s≤s.length:=by
  have hi:=Go.Lib.index_le s [10]
  have hsp:=Q9b blB s
  unfold Q3y blS
  rw [Z4w,Option.bind_some]
  by_cases h1:([47,47]:List UInt8) <+: s
  · rw [dt h1,cond_true,if_pos h1]
    unfold strings_Index
    rw [if_pos (by omega),Option.bind_some]
    by_cases h2:0≤Go.Lib.index s [10]
    · rw [c1 (dt h2),if_pos h2]; exact⟨rfl,hi⟩
    · rw [c0 (df h2),if_neg h2]; exact⟨rfl,by omega⟩
  · rw [df h1,cond_false,if_neg h1,Z4w,Option.bind_some]
    by_cases h2:([47,42]:List UInt8) <+: s
    · have hl2:=h2.length_le
      have hi2:=Go.Lib.index_le (s.drop 2) [42,47]
      have hd:(s.drop 2).length=s.length - 2:=by simp
      simp at hl2
      rw [dt h2,cond_true,if_pos h2,show sub s 2 (s.length:Int)=some (s.drop 2) from Q8z hl2,Option.bind_some]
      unfold strings_Index
      rw [if_pos (by simp; omega),Option.bind_some]
      by_cases h3:Go.Lib.index (s.drop 2) [42,47] < 0
      · rw [c1 (dt h3),if_pos h3]; exact⟨rfl,by omega⟩
      · rw [c0 (df h3),if_neg h3,w64 (by omega)]
        refine⟨rfl,?_⟩
        -- the instance lies within
        have:=Z4v (s.drop 2) [42,47] (by decide) (by omega)
        simp at this
        omega
    · rw [df h2,cond_false,if_neg h2,span_eq s (by omega),Option.bind_some]
      exact⟨rfl,by omega⟩

/-! Tokens. -/
def Z0v:Pos:=⟨0,0⟩
def tokZ:Y6:=⟨0,[],0,Z0v⟩
/-- Nothing follows, or a blank. -/
def Sepr (r:List UInt8):Prop := ∀ c,r.head? = some c→blB c=true
theorem sp_all (p:UInt8→Bool) : ∀(l r:List UInt8),(∀ x ∈ l,p x=true)→(∀ c,r.head? = some c→p c=false)→sp p (l++r)=l.length
  | [],[],_,_=>rfl
  | [],c::r,_,h=>by
    show sp p (c::r)=0
    unfold sp
    rw [if_neg (by simp [h c rfl])]
  | x::l,r,h1,h2=>by
    show sp p (x::(l++r))=l.length+1
    unfold sp
    rw [if_pos (h1 x (by simp)),sp_all p l r (fun y hy=>h1 y (by simp [hy])) h2]
theorem Z0f (p:UInt8→Bool) (l:List UInt8) : ∀ x ∈ l.take (sp p l),p x=true:=by
  intro x hx
  obtain⟨k,hk,rfl⟩:=List.getElem_of_mem hx
  have hle:=Q9b p l
  have hk2:k < sp p l:=by simp at hk; omega
  rw [List.getElem_take]
  exact Z5n p l k hk2
theorem Z2e {c:UInt8} (h:blB c=true):L0 c=false:=by
  have : ∀ n:_root_.Fin 256,blB (UInt8.ofNat n.val)=true→L0 (UInt8.ofNat n.val)=false:=by decide +kernel
  have h2:=this ⟨c.toNat,c.toNat_lt⟩
  simp only [UInt8.ofNat_toNat] at h2
  exact h2 h
theorem Q6w {c:UInt8} (h:L0 c=true):c ≠ 10:=by
  rintro rfl
  revert h
  decide
theorem Z0g {l r:List UInt8} (h : ∀ x ∈ l,L0 x=true) (hr:Sepr r):sp L0 (l++r)=l.length:=sp_all _ l r h fun c hc=>Z2e (hr c hc)

/-- What is asked of a token at the beginning of a text. -/
structure Tok (t:Y6) (s:List UInt8):Prop where
  pre:t.Text <+: s
  ne:t.Text ≠ []
  pos:t.Pos=Z0v
  nl : ∀ x ∈ t.Text,x ≠ 10
  again : ∀ r,Sepr r→(t.Text++r).length≤100000→W6 (t.Text++r)=some (t,0)

theorem Z4d (n:Int) : ∃ w,Q0v n=some w:=by
  unfold Q0v
  rw [Z2a,Option.bind_some]
  cases digB n <;> cases decide (97≤n) <;> cases decide (n≤102) <;> cases decide (65≤n) <;> cases decide (n≤70) <;> exact⟨_,rfl⟩
def numK (u1:List UInt8) (x1:List UInt8) (x2:Int):Option (Y6×Int):=bif decide (x1=([]:List UInt8)) then (some ((⟨0,([]:List UInt8),0,(⟨0,0⟩:Pos)⟩:Y6),(3:Int))) else ((Q0q (List.length x1)).bind fun _=>(V7 (fun(x3,x4,x5)=>(bif decide (x5 < (List.length (D7 x1):Int)) then (jn (fun kk2=>(idx (D7 x1) x5).bind fun u4=>(Q0v u4).bind fun y4=>bif decide (x2≤y4) then (some (Lp.ret ((⟨0,([]:List UInt8),0,(⟨0,0⟩:Pos)⟩:Y6),(3:Int)))) else ((Q0v u4).bind fun y5=>bif decide (4294967295 < (IntKind.wrap .u64 ((IntKind.wrap .u64 (x3 * x2))+y5))) then (kk2 (4294967295:Int) true) else (kk2 (IntKind.wrap .u64 ((IntKind.wrap .u64 (x3 * x2))+y5)) x4))) (fun(x6:Int) (x7:Bool)=>some (Lp.go (x6,x7,IntKind.wrap .i64 (x5+1))))) else (some (Lp.brk (x3,x4,x5))):Option (Lp (Int×Bool×Int) (Y6×Int)))) NN (0,false,0)).bind fun o=>o.thn (fun(x3,x4,x5)=>bif x4 then (some ((⟨0,([]:List UInt8),0,(⟨0,0⟩:Pos)⟩:Y6),(7:Int))) else (some ((⟨3,u1,IntKind.wrap .u32 x3,(⟨0,0⟩:Pos)⟩:Y6),(0:Int)))) (fun r=>some r))
def numT (u1:List UInt8):Option (Y6×Int):=jn (fun kk1=>(P1 u1 ([48,120]:List UInt8)).bind fun y2=>bif y2 then ((sub u1 2 (List.length u1:Int)).bind fun u3=>kk1 u3 (16:Int)) else ((P1 u1 ([48,88]:List UInt8)).bind fun y3=>bif y3 then ((sub u1 2 (List.length u1:Int)).bind fun u2=>kk1 u2 (16:Int)) else (kk1 u1 (10:Int)))) (numK u1)
theorem Z2x (s:List UInt8) (hl:s.length≤100000):Q2s s=numT (s.take (sp L0 s)):=by
  unfold Q2s
  refine bnd (Z1l s (by omega)) ?_
  refine bnd (Q6t (Q9b _ _)) rfl
theorem Q8o (u x:List UInt8) (b:Int) (hl:x.length≤100000) : ∃ y,numK u x b=some y∧(y.2=0→y.1.Text=u∧y.1.Pos=Z0v):=by
  unfold numK
  by_cases hx:x = []
  · rw [c1 (dt hx)]; exact⟨_,rfl,fun h=>by cases h⟩
  rw [c0 (df hx),R1 (by omega),Option.bind_some]
  have hsl:(D7 x).length=x.length:=by simp [D7]
  obtain⟨o,ho,hp⟩:=Q5k (R:=Y6×Int) (body:=fun(x3,x4,x5)=>(bif decide (x5 < (List.length (D7 x):Int)) then (jn (fun kk2=>(idx (D7 x) x5).bind fun u4=>(Q0v u4).bind fun y4=>bif decide (b≤y4) then (some (Lp.ret ((⟨0,([]:List UInt8),0,(⟨0,0⟩:Pos)⟩:Y6),(3:Int)))) else ((Q0v u4).bind fun y5=>bif decide (4294967295 < (IntKind.wrap .u64 ((IntKind.wrap .u64 (x3 * b))+y5))) then (kk2 (4294967295:Int) true) else (kk2 (IntKind.wrap .u64 ((IntKind.wrap .u64 (x3 * b))+y5)) x4))) (fun(x6:Int) (x7:Bool)=>some (Lp.go (x6,x7,IntKind.wrap .i64 (x5+1))))) else (some (Lp.brk (x3,x4,x5))):Option (Lp (Int×Bool×Int) (Y6×Int))))
    (n:=NN) (s:=(0,false,0)) (fun s => ∃ k:Nat,s.2.2=(k:Int)∧k≤x.length) (fun s=>x.length - s.2.2.toNat) (fun o=>(∃ s,o = .brk s) ∨ o = .ret (tokZ,3)) ⟨0,rfl,by omega⟩ (Q6c (by dsimp only; omega)) (by
      rintro⟨a,f,i⟩ ⟨k,hk,hk2⟩
      dsimp only at hk ⊢
      subst hk
      rw [hsl]
      by_cases h:k < x.length
      · rw [c1 (dt (by omega))]
        simp only [jn]
        rw [N8 (by rw [hsl]; exact h),Option.bind_some]
        obtain⟨wv,hw⟩:=Z4d (D7 x)[k]
        rw [hw,Option.bind_some,Option.bind_some]
        by_cases h1:b≤wv
        · rw [c1 (dt h1)]; exact⟨_,rfl,.inr rfl⟩
        · rw [c0 (df h1)]
          cases decide (4294967295 < (IntKind.wrap .u64 ((IntKind.wrap .u64 (a * b))+wv))) <;> exact⟨_,rfl,⟨k+1,by dsimp only; rw [w64 (by omega)]; omega,by omega⟩,by dsimp only; rw [w64 (by omega)]; omega⟩
      · rw [c0 (df (by omega))]; exact⟨_,rfl,.inl ⟨_,rfl⟩⟩)
  refine exb ho ?_
  rcases hp with ⟨⟨a,f,i⟩,rfl⟩ | rfl
  · dsimp only [Lp.thn]
    cases f with
    | true=>exact⟨_,rfl,fun h=>by cases h⟩
    | false=>exact⟨_,rfl,fun _=>⟨rfl,rfl⟩⟩
  · exact⟨_,rfl,fun h=>by cases h⟩
theorem Z5t (u:List UInt8) (hl:u.length≤100000) : ∃ y,numT u=some y∧(y.2=0→y.1.Text=u∧y.1.Pos=Z0v):=by
  unfold numT
  simp only [jn]
  refine exb (Z4w _ _) ?_
  by_cases h1:([48,120]:List UInt8) <+: u
  · have:=h1.length_le
    simp at this
    rw [dt h1,cond_true]
    exact exb (Q8z (b:=u) (n:=2) this) (Q8o _ _ _ (by simp; omega))
  · rw [df h1,cond_false]
    refine exb (Z4w _ _) ?_
    by_cases h2:([48,88]:List UInt8) <+: u
    · have:=h2.length_le
      simp at this
      rw [dt h2,cond_true]
      exact exb (Q8z (b:=u) (n:=2) this) (Q8o _ _ _ (by simp; omega))
    · rw [df h2,cond_false]
      exact Q8o _ _ _ hl

/-! Bytes between quotes. -/
def cB (a b c:UInt8):Bool:=(c.toNat:Int) == 39&&(decide (32≤(b.toNat:Int))&&(decide ((b.toNat:Int)≤126)&&((b.toNat:Int) != 39&&(b.toNat:Int) != 92)))
def c3 (a b c:UInt8):Y6×Int:=bif cB a b c then (⟨3,[a,b,c],IntKind.wrap .u32 (b.toNat:Int),Z0v⟩,0) else (tokZ,3)
theorem Z7n (n:Int) : ∃ y,Q1s n=some y:=by
  unfold Q1s jn
  cases n == 110 <;> cases n == 116 <;> cases n == 114 <;> cases n == 48 <;> cases n == 92 <;> cases n == 39 <;> exact⟨_,rfl⟩
theorem Z2b (a b c:UInt8):O2 [a,b,c]=some (c3 a b c):=by
  unfold O2 c3 cB
  rw [c0 (by rfl),c1 (by rfl),show idx [a,b,c] 2=some c from rfl,show idx [a,b,c] 1=some b from rfl,show sub [a,b,c] 0 3=some [a,b,c] from rfl]
  simp only [Option.bind_some]
  cases((c.toNat:Int) == 39) <;> cases decide (32≤(b.toNat:Int)) <;> cases decide ((b.toNat:Int)≤126) <;> cases ((b.toNat:Int) != 39) <;> cases ((b.toNat:Int) != 92) <;> rfl
theorem Q9y (a b c d:UInt8) (l:List UInt8):O2 (a::b::c::d::l)=bif ((b.toNat:Int) == 92&&(d.toNat:Int) == 39) then (Q1s (c.toNat:Int)).bind (fun y=>bif y.2 then some ((⟨3,[a,b,c,d],IntKind.wrap .u32 y.1,Z0v⟩:Y6),(0:Int)) else some (tokZ,3)) else some (c3 a b c):=by
  have hl:(((a::b::c::d::l).length:Nat):Int)=l.length+4:=by simp; omega
  have hs4:sub (a::b::c::d::l) 0 4=some [a,b,c,d]:=by unfold sub; rw [if_pos (by omega)]; rfl
  have hs3:sub (a::b::c::d::l) 0 3=some [a,b,c]:=by unfold sub; rw [if_pos (by omega)]; rfl
  unfold O2 c3 cB
  rw [hl,c1 (dt (show (4:Int)≤l.length+4 by omega)),show idx (a::b::c::d::l) 1=some b from rfl,show idx (a::b::c::d::l) 2=some c from rfl,show idx (a::b::c::d::l) 3=some d from rfl,hs4,hs3,dt (show (3:Int)≤l.length+4 by omega)]
  simp only [Option.bind_some,cond_true]
  cases((b.toNat:Int) == 92) <;> cases ((d.toNat:Int) == 39) <;> cases ((c.toNat:Int) == 39) <;> cases decide (32≤(b.toNat:Int)) <;> cases decide ((b.toNat:Int)≤126) <;> cases ((b.toNat:Int) != 39) <;> cases ((b.toNat:Int) != 92) <;> rfl
theorem Z7p (s:List UInt8) : ∃ y,O2 s=some y∧(y.2=0→y.1.Text <+: s∧y.1.Text ≠ []∧y.1.Pos=Z0v∧(∀ x ∈ y.1.Text,x=s.headD 0 ∨ x ≠ 10) ∧ ∀ r,O2 (y.1.Text++r)=some (y.1,0)):=by
  have short : ∀ l:List UInt8,l.length < 3→O2 l=some (tokZ,3):=fun l h=>by
    unfold O2
    rw [c0 (df (by omega)),c0 (df (by omega))]
    rfl
  have three : ∀(a b c:UInt8) (l:List UInt8),(c3 a b c).2=0→(c3 a b c).1.Text = [a,b,c]∧(c3 a b c).1.Pos=Z0v∧b ≠ 10∧c ≠ 10 ∧ ∀ r,O2 ([a,b,c]++r)=some ((c3 a b c).1,0):=by
    intro a b c l h
    have hb:cB a b c=true:=by
      cases hh:cB a b c with
      | true=>rfl
      | false=>unfold c3 at h; rw [hh] at h; cases h
    have hc3:c3 a b c=(⟨3,[a,b,c],IntKind.wrap .u32 (b.toNat:Int),Z0v⟩,0):=by unfold c3; rw [hb]; rfl
    have hb2:=hb
    unfold cB at hb2
    simp only [Bool.and_eq_true,beq_iff_eq,decide_eq_true_eq,bne_iff_ne] at hb2
    rw [hc3]
    refine⟨rfl,rfl,?_,?_,fun r => ?_⟩
    · rintro rfl; have:=hb2.2.1; simp at this
    · rintro rfl; have:=hb2.1; simp at this
    · cases r with
      | nil=>rw [List.append_nil,Z2b,hc3]
      | cons d r =>
        show O2 (a::b::c::d::r)=_
        rw [Q9y,c0 (by simp [hb2.2.2.2.2]),hc3]
  match s with
  | []=>exact⟨_,short _ (by simp),fun h=>by cases h⟩
  | [a]=>exact⟨_,short _ (by simp),fun h=>by cases h⟩
  | [a,b]=>exact⟨_,short _ (by simp),fun h=>by cases h⟩
  | [a,b,c] =>
    refine⟨_,Z2b a b c,fun h => ?_⟩
    obtain⟨e1,e2,e3,e4,e5⟩:=three a b c [] h
    rw [e1]
    refine⟨⟨[],rfl⟩,by simp,e2,fun x hx => ?_,e5⟩
    simp only [List.mem_cons,List.not_mem_nil,or_false] at hx
    rcases hx with rfl | rfl | rfl
    · exact .inl rfl
    · exact .inr e3
    · exact .inr e4
  | a::b::c::d::l =>
    rw [Q9y]
    cases hbd:((b.toNat:Int) == 92&&(d.toNat:Int) == 39) with
    | false =>
      refine⟨_,rfl,fun h => ?_⟩
      obtain⟨e1,e2,e3,e4,e5⟩:=three a b c [] h
      rw [e1]
      refine⟨⟨d::l,rfl⟩,by simp,e2,fun x hx => ?_,e5⟩
      simp only [List.mem_cons,List.not_mem_nil,or_false] at hx
      rcases hx with rfl | rfl | rfl
      · exact .inl rfl
      · exact .inr e3
      · exact .inr e4
    | true =>
      rw [cond_true]
      obtain⟨⟨v,ok⟩,he⟩:=Z7n (c.toNat:Int)
      refine exb he ?_
      cases ok with
      | false=>exact⟨_,rfl,fun h=>by cases h⟩
      | true =>
        refine⟨_,rfl,fun _=>⟨⟨l,rfl⟩,by simp,rfl,fun x hx => ?_,fun r => ?_⟩⟩
        · dsimp only at hx
          simp only [Bool.and_eq_true,beq_iff_eq] at hbd
          simp only [List.mem_cons,List.not_mem_nil,or_false] at hx
          rcases hx with rfl | rfl | rfl | rfl
          · exact .inl rfl
          · right; rintro rfl; have:=hbd.1; simp at this
          · right
            rintro rfl
            have:Q1s (((10:UInt8).toNat:Nat):Int)=some (0,false):=rfl
            rw [this] at he
            cases he
          · right; rintro rfl; have:=hbd.2; simp at this
        · show O2 (a::b::c::d::r)=_
          rw [Q9y,hbd,cond_true,he]
          rfl

/-! Marks. -/
def Q2g:List (List UInt8) := [([60,60,61]:List UInt8),([62,62,61]:List UInt8),([45,62]:List UInt8),([43,43]:List UInt8),([45,45]:List UInt8),([60,60]:List UInt8),([62,62]:List UInt8),([60,61]:List UInt8),([62,61]:List UInt8),([61,61]:List UInt8),([33,61]:List UInt8),([38,38]:List UInt8),([124,124]:List UInt8),([43,61]:List UInt8),([45,61]:List UInt8),([42,61]:List UInt8),([47,61]:List UInt8),([37,61]:List UInt8),([38,61]:List UInt8),([124,61]:List UInt8),([94,61]:List UInt8),([43]:List UInt8),([45]:List UInt8),([42]:List UInt8),([47]:List UInt8),([37]:List UInt8),([38]:List UInt8),([124]:List UInt8),([94]:List UInt8),([126]:List UInt8),([33]:List UInt8),([60]:List UInt8),([62]:List UInt8),([61]:List UInt8),([63]:List UInt8),([58]:List UInt8),([59]:List UInt8),([44]:List UInt8),([46]:List UInt8),([40]:List UInt8),([41]:List UInt8),([91]:List UInt8),([93]:List UInt8),([123]:List UInt8),([125]:List UInt8)]
def Q3q (s:List UInt8):List UInt8:=match Q2g.findIdx? (fun m=>decide (m <+: s)) with
  | some k=>Q2g.getD k []
  | none => []
theorem Z6n (s:List UInt8):Q5m s=some (Q3q s):=by
  unfold Q5m Q3q
  refine Z7m Q2g (fun m=>decide (m <+: s)) (fun k=>Q2g.getD k []) (by decide) (fun k hk => ?_) (by rfl) ?_
  · show(bif decide ((k:Int) < (Q2g.length:Int)) then _ else _)=_
    rw [c1 (dlt hk)]
    refine bnd (x:=Q2g[k]) (N8 hk) ?_
    refine bnd (Z4w _ _) ?_
    rw [show Q2g.getD k []=Q2g[k] by simp [hk]]
    cases decide (Q2g[k] <+: s) <;> rfl
  · cases Q2g.findIdx? _ <;> rfl
theorem Z4r : ∀ m ∈ Q2g,m ≠ [] ∧ ∀ x ∈ m,blB x=false∧x ≠ 10:=by decide +kernel
theorem Z3l {m t r:List UInt8} (hm : ∀ x ∈ m,blB x=false) (hr:Sepr r) (h:m <+: t++r):m <+: t:=by
  by_cases hl:m.length≤t.length
  · exact List.prefix_of_prefix_length_le h (List.prefix_append t r) hl
  · exfalso
    obtain⟨q,hq⟩:=h
    have hlt:t.length < m.length:=by omega
    have h1:(m++q)[t.length]? = m[t.length]? := List.getElem?_append_left hlt
    rw [hq,List.getElem?_append_right (Nat.le_refl _),Nat.sub_self] at h1
    rw [List.getElem?_eq_getElem hlt] at h1
    have h2:=hr m[t.length] (by rw [List.head?_eq_getElem?]; exact h1)
    rw [hm _ (List.getElem_mem hlt)] at h2
    cases h2
theorem Z7h (s:List UInt8) (h:Q3q s ≠ []):Q3q s <+: s∧(∀ x ∈ Q3q s,blB x=false∧x ≠ 10) ∧ ∀ r,Sepr r→Q3q (Q3q s++r)=Q3q s:=by
  cases hf:Q2g.findIdx? (fun m=>decide (m <+: s)) with
  | none=>exact absurd (by unfold Q3q; rw [hf]) h
  | some k =>
    obtain⟨hk,hp,hlt⟩:=List.findIdx?_eq_some_iff_getElem.1 hf
    have hmk:Q3q s=Q2g[k]:=by unfold Q3q; rw [hf]; simp [hk]
    rw [hmk]
    have hp' : Q2g[k] <+: s:=by simpa using hp
    refine⟨hp',(Z4r _ (List.getElem_mem hk)).2,fun r hr => ?_⟩
    have:Q2g.findIdx? (fun m=>decide (m <+: Q2g[k]++r))=some k:=by
      refine List.findIdx?_eq_some_iff_getElem.2 ⟨hk,by simp,fun j hj => ?_⟩
      have hn:=hlt j hj
      intro hc
      have hc' : Q2g[j] <+: Q2g[k]++r:=by simpa using hc
      have:=Z3l (fun x hx=>((Z4r _ (List.getElem_mem (Nat.lt_trans hj hk))).2 x hx).1) hr hc'
      exact absurd (this.trans hp') (by simpa using hn)
    unfold Q3q
    rw [this]
    simp [hk]

/-! The token at the beginning. -/
theorem Q8g (s:List UInt8) (hs:s ≠ []) (hl:s.length≤100000) : ∃ y,W6 s=some y∧(y.2=0→Tok y.1 s):=by
  obtain⟨c,l,rfl⟩ : ∃ c l,s=c::l:=by
    cases s with
    | nil=>exact absurd rfl hs
    | cons c l=>exact⟨c,l,rfl⟩
  have key : ∀ l',W6 (c::l')=(bif letB (c.toNat:Int) then ((Q1r (c::l')).bind fun y2=>(sub (c::l') 0 y2).bind fun u2=>bif decide (31 < y2) then (some ((⟨1,u2,0,(⟨0,0⟩:Pos)⟩:Y6),(2:Int))) else (jn (fun kk1=>(Q4n u2).bind fun y3=>bif y3 then (kk1 (⟨2,u2,0,(⟨0,0⟩:Pos)⟩:Y6)) else (kk1 (⟨1,u2,0,(⟨0,0⟩:Pos)⟩:Y6))) (fun(x1:Y6)=>some (x1,(0:Int))))) else (bif digB (c.toNat:Int) then ((Q2s (c::l')).bind fun y5=>some (y5.1,y5.2)) else (bif (UInt8.toNat c:Int) == 39 then ((O2 (c::l')).bind fun y6=>some (y6.1,y6.2)) else ((Q5m (c::l')).bind fun y7=>bif decide (y7=([]:List UInt8)) then (some ((⟨0,([]:List UInt8),0,(⟨0,0⟩:Pos)⟩:Y6),(3:Int))) else (some ((⟨4,y7,0,(⟨0,0⟩:Pos)⟩:Y6),(0:Int))))))):=fun l' => by
    unfold W6
    rw [show idx (c::l') 0=some c from rfl]
    simp only [Option.bind_some,Z3a,Z2a]
  have hmore:letB (c.toNat:Int)=true ∨ digB (c.toNat:Int)=true→L0 c=true:=fun h=>by
    unfold L0
    rcases h with h | h <;> rw [h] <;> simp
  have hsp1:L0 c=true→1≤sp L0 (c::l):=fun h=>by
    show 1≤(if L0 c then sp L0 l+1 else 0)
    rw [if_pos h]; omega
  rw [key]
  cases hlet:letB (c.toNat:Int) with
  | true =>
    rw [cond_true]
    refine exb (Z1l _ (by omega)) ?_
    refine exb (Q6t (Q9b _ _)) ?_
    have h1:=hsp1 (hmore (.inl hlet))
    have hle:=Q9b L0 (c::l)
    have hall:=Z0f L0 (c::l)
    by_cases h31:(31:Int) < ((sp L0 (c::l):Nat):Int)
    · rw [c1 (dt h31)]; exact⟨_,rfl,fun h=>by cases h⟩
    · rw [c0 (df h31)]
      simp only [jn]
      have hlen:((c::l).take (sp L0 (c::l))).length=sp L0 (c::l):=by rw [List.length_take]; omega
      have htc : ∃ q,(c::l).take (sp L0 (c::l))=c::q:=by
        cases hn:sp L0 (c::l) with
        | zero=>omega
        | succ m=>exact⟨_,rfl⟩
      have hpre:=List.take_prefix (sp L0 (c::l)) (c::l)
      generalize (c::l).take (sp L0 (c::l))=u at hall hlen htc hpre ⊢
      obtain⟨q,rfl⟩:=htc
      have hag : ∀ r,Sepr r→((c::q)++r).length≤100000→W6 ((c::q)++r)=(Q4n (c::q)).bind fun y3=>bif y3 then (some ((⟨2,c::q,0,(⟨0,0⟩:Pos)⟩:Y6),(0:Int))) else (some ((⟨1,c::q,0,(⟨0,0⟩:Pos)⟩:Y6),(0:Int))):=fun r hr hlr=>by
        have hsp:=Z0g hall hr
        rw [List.cons_append,key,hlet,cond_true]
        refine bnd (Z1l _ (by rw [List.cons_append] at hlr; omega)) ?_
        rw [← List.cons_append,hsp]
        refine bnd (x:=c::q) ?_ ?_
        · rw [Q6t (by simp)]; simp
        · rw [c0 (df (by rw [hlen]; exact h31))]
          rfl
      rw [Z6v,Option.bind_some]
      rw [Z6v] at hag
      cases hw:wordB (c::q) with
      | true=>exact⟨_,rfl,fun _=>⟨hpre,by simp,rfl,fun x hx=>Q6w (hall x hx),fun r hr hlr=>by rw [show (⟨2,c::q,0,Z0v⟩:Y6).Text=c::q from rfl,hag r hr hlr,hw]; rfl⟩⟩
      | false=>exact⟨_,rfl,fun _=>⟨hpre,by simp,rfl,fun x hx=>Q6w (hall x hx),fun r hr hlr=>by rw [show (⟨1,c::q,0,Z0v⟩:Y6).Text=c::q from rfl,hag r hr hlr,hw]; rfl⟩⟩
  | false =>
    rw [cond_false]
    cases hdig:digB (c.toNat:Int) with
    | true =>
      rw [cond_true,Z2x _ hl]
      have h1:=hsp1 (hmore (.inr hdig))
      have hall:=Z0f L0 (c::l)
      have hlen:((c::l).take (sp L0 (c::l))).length=sp L0 (c::l):=by have:=Q9b L0 (c::l); rw [List.length_take]; omega
      have htc : ∃ q,(c::l).take (sp L0 (c::l))=c::q:=by
        cases hn:sp L0 (c::l) with
        | zero=>omega
        | succ m=>exact⟨_,rfl⟩
      have hpre:=List.take_prefix (sp L0 (c::l)) (c::l)
      generalize (c::l).take (sp L0 (c::l))=u at hall hlen htc hpre ⊢
      obtain⟨q,rfl⟩:=htc
      obtain⟨⟨t,e⟩,hy,hp⟩:=Z5t (c::q) (Nat.le_trans hpre.length_le hl)
      refine exb hy ?_
      refine⟨_,rfl,fun he => ?_⟩
      dsimp only at he hp
      obtain⟨e1,e2⟩:=hp he
      subst he
      refine⟨by dsimp only; rw [e1]; exact hpre,by dsimp only; rw [e1]; simp,e2,fun x hx=>Q6w (hall x (by dsimp only at hx; rwa [e1] at hx)),fun r hr hlr => ?_⟩
      dsimp only at hlr ⊢
      rw [e1] at hlr ⊢
      rw [List.cons_append,key,hlet,cond_false,hdig,cond_true,← List.cons_append,Z2x _ hlr,Z0g hall hr]
      rw [List.take_append_of_le_length (Nat.le_refl _),List.take_length,hy]
      rfl
    | false =>
      rw [cond_false]
      cases hq:((c.toNat:Int) == 39) with
      | true =>
        rw [cond_true]
        obtain⟨⟨t,e⟩,hy,hp⟩:=Z7p (c::l)
        refine exb hy ?_
        refine⟨_,rfl,fun he => ?_⟩
        dsimp only at he hp
        obtain⟨p1,p2,p3,p4,p5⟩:=hp he
        subst he
        refine⟨p1,p2,p3,fun x hx => ?_,fun r hr hlr => ?_⟩
        · rcases p4 x hx with h | h
          · rw [h]
            rintro h10
            rw [show (c::l).headD 0=c from rfl] at h10
            subst h10
            simp at hq
          · exact h
        · have hc : ∃ q,t.Text=c::q:=by
            obtain⟨z,hz⟩:=p1
            cases htt:t.Text with
            | nil=>exact absurd htt p2
            | cons x q=>rw [htt] at hz; cases hz; exact⟨q,rfl⟩
          obtain⟨q,hq2⟩:=hc
          have:=p5 r
          dsimp only at this ⊢
          rw [hq2,List.cons_append] at this ⊢
          rw [key,hlet,cond_false,hdig,cond_false,hq,cond_true,this]
          rfl
      | false =>
        rw [cond_false]
        refine exb (Z6n _) ?_
        by_cases hm:Q3q (c::l) = []
        · rw [c1 (dt hm)]; exact⟨_,rfl,fun h=>by cases h⟩
        · rw [c0 (df hm)]
          obtain⟨p1,p2,p3⟩:=Z7h _ hm
          refine⟨_,rfl,fun _=>⟨p1,hm,rfl,fun x hx=>(p2 x hx).2,fun r hr hlr => ?_⟩⟩
          dsimp only at hlr ⊢
          have p3' := p3 r hr
          have hc : ∃ q,Q3q (c::l)=c::q:=by
            obtain⟨z,hz⟩:=p1
            cases htt:Q3q (c::l) with
            | nil=>exact absurd htt hm
            | cons x q=>rw [htt] at hz; cases hz; exact⟨q,rfl⟩
          generalize Q3q (c::l)=mm at hc p3' hm hlr ⊢
          obtain⟨q,rfl⟩:=hc
          rw [List.cons_append] at p3' ⊢
          rw [key,hlet,cond_false,hdig,cond_false,hq,cond_false,Z6n,Option.bind_some,p3',c0 (df hm)]

/-- Ahead of a token there is no blank, and there is none where it stands again. -/
theorem bl_zero {s:List UInt8} (hs:s ≠ []) (h:blS s=0) : ¬ ([47,47]:List UInt8) <+: s ∧ ¬ ([47,42]:List UInt8) <+: s∧sp blB s=0:=by
  unfold blS at h
  by_cases h1:([47,47]:List UInt8) <+: s
  · exfalso
    rw [if_pos h1] at h
    obtain⟨q,rfl⟩:=h1
    by_cases h2:0≤Go.Lib.index ([47,47]++q) [10]
    · rw [if_pos h2] at h
      have e:Go.Lib.index ([47,47]++q) [10]=if Go.Lib.index (47::q) [10] == -1 then -1 else Go.Lib.index (47::q) [10]+1:=by
        show Go.Lib.index (47::(47::q)) [10]=_
        rw [Go.Lib.index,if_neg (by simp [List.isPrefixOf])]
      rw [e] at h
      have:=Go.Lib.index_ge (47::q) [10]
      split at h
      · omega
      · rename_i hne
        have:Go.Lib.index (47::q) [10] ≠ -1:=by simpa using hne
        omega
    · rw [if_neg h2] at h
      simp at h
      omega
  · rw [if_neg h1] at h
    by_cases h2:([47,42]:List UInt8) <+: s
    · exfalso
      rw [if_pos h2] at h
      split at h <;> omega
    · rw [if_neg h2] at h
      exact⟨h1,h2,by omega⟩
theorem bl_again {s:List UInt8} (hs:s ≠ []) (h:blS s=0) {t:Y6} (ht:Tok t s) {r:List UInt8} (hr:Sepr r):blS (t.Text++r)=0:=by
  obtain⟨h1,h2,h3⟩:=bl_zero hs h
  have n1 : ¬ ([47,47]:List UInt8) <+: t.Text++r:=fun hh=>h1 ((Z3l (by decide) hr hh).trans ht.pre)
  have n2 : ¬ ([47,42]:List UInt8) <+: t.Text++r:=fun hh=>h2 ((Z3l (by decide) hr hh).trans ht.pre)
  unfold blS
  rw [if_neg n1,if_neg n2]
  have hne:=ht.ne
  have hpre:=ht.pre
  cases htt:t.Text with
  | nil=>exact absurd htt hne
  | cons c q =>
    rw [htt] at hpre
    obtain⟨z,rfl⟩:=hpre
    have hc:blB c=false:=by
      cases hb:blB c with
      | false=>rfl
      | true =>
        rw [show sp blB ((c::q)++z)=(if blB c then sp blB (q++z)+1 else 0) from rfl,if_pos hb] at h3
        omega
    rw [show sp blB ((c::q)++r)=(if blB c then sp blB (q++r)+1 else 0) from rfl,if_neg (by simp [hc])]
    rfl

/-! A whole text. -/
def Q9a (t:Y6):Y6 := {t with Pos:=Z0v}
/-- These are the tokens of a text. -/
inductive Lx:List UInt8→List Y6→Prop
  | nil:Lx [] []
  | blank {s:List UInt8} {ts:List Y6} (h:s ≠ []) (n:Nat) (hn:blS s=(n:Int)) (h0:0 < n) (k:Lx (s.drop n) ts):Lx s ts
  | tok {s:List UInt8} {t:Y6} {ts:List Y6} (h:s ≠ []) (hb:blS s=0) (ht:W6 s=some (t,0)) (k:Lx (s.drop t.Text.length) ts):Lx s (t::ts)
/-- A place behind some bytes. -/
def adv (p:Pos):List UInt8→Pos
  | []=>p
  | c::l=>adv (if c=10 then ⟨p.Line+1,1⟩ else ⟨p.Line,p.Col+1⟩) l
theorem adv_app (p:Pos) : ∀(a b:List UInt8),adv p (a++b)=adv (adv p a) b:=by
  intro a
  induction a generalizing p with
  | nil=>intro b; rfl
  | cons c a ih=>intro b; exact ih _ b
structure Q9o (p:Pos) (m:Nat):Prop where
  l:0≤p.Line∧p.Line≤m
  c:0≤p.Col∧p.Col≤m
theorem Z2h {p:Pos} {m:Nat} (h:Q9o p m) (h1:1≤m) : ∀ a:List UInt8,Q9o (adv p a) (m+a.length):=by
  intro a
  induction a generalizing p m with
  | nil=>exact h
  | cons c a ih =>
    have hl:=h.l; have hc:=h.c
    have:Q9o (if c=10 then ⟨p.Line+1,1⟩ else ⟨p.Line,p.Col+1⟩) (m+1):=by
      split
      · exact⟨by dsimp only; omega,by dsimp only; omega⟩
      · exact⟨by dsimp only; omega,by dsimp only; omega⟩
    have:=ih this (by omega)
    rw [show m+(c::a).length=m+1+a.length by simp; omega]
    exact this
theorem Z6i {s:List UInt8} {p:Pos} {m:Nat} (h:Q9o p m) (h1:1≤m) (hm:m+s.length≤1000000) {n:Nat} (hn:n≤s.length):H5 ⟨s,p⟩ (n:Int)=some ⟨s.drop n,adv p (s.take n)⟩:=by
  unfold H5
  dsimp only
  rw [Q6t hn,Option.bind_some]
  have hlen:(s.take n).length=n:=by rw [List.length_take]; omega
  generalize hu:s.take n=u at hlen ⊢
  rw [R1 (by omega),Option.bind_some]
  have hsl:(D7 u).length=u.length:=by simp [D7]
  refine run_bind (fun k=>((k:Int),(⟨s,adv p (u.take k)⟩:F9))) u.length (.brk ((u.length:Int),⟨s,adv p u⟩)) rfl (by omega) (fun k hk => ?_) ?_ trivial ?_
  · dsimp only
    have hp:=Z2h h h1 (u.take k)
    have hl:=hp.l; have hc:=hp.c
    have hkl:(u.take k).length=k:=by rw [List.length_take]; omega
    rw [hkl] at hl hc
    rw [c1 (dt (by rw [hsl]; omega))]
    simp only [jn]
    rw [N8 (by rw [hsl]; exact hk),Option.bind_some,List.take_succ_eq_append_getElem hk,adv_app]
    have e:(D7 u)[k]'(by rw [hsl]; exact hk)=(u[k].toNat:Int):=by simp [D7]
    rw [e,w64 (x:=(k:Int)+1) (by omega)]
    by_cases h10:u[k]=10
    · rw [c1 (by rw [h10]; rfl),w64 (by omega)]
      show _=some (Lp.go (((k+1:Nat):Int),(⟨s,(if u[k]=10 then ⟨(adv p (u.take k)).Line+1,1⟩ else ⟨(adv p (u.take k)).Line,(adv p (u.take k)).Col+1⟩)⟩:F9)))
      rw [if_pos h10]
      rfl
    · rw [c0 (by simp; intro hh; exact h10 (UInt8.toNat_inj.1 (by rw [show (10:UInt8).toNat=10 from rfl]; omega))),w64 (by omega)]
      show _=some (Lp.go (((k+1:Nat):Int),(⟨s,(if u[k]=10 then ⟨(adv p (u.take k)).Line+1,1⟩ else ⟨(adv p (u.take k)).Line,(adv p (u.take k)).Col+1⟩)⟩:F9)))
      rw [if_neg h10]
      rfl
  · dsimp only
    rw [hsl,c0 (dge _),List.take_length]
  · dsimp only [Lp.thn]
    rw [Q8z hn,Option.bind_some]
def Q3u:List Y6×F9→Option (Lp (List Y6×F9) (List Y6×Pos×Int)):=fun(x1,x2)=>(bif !(decide (x2.s=([]:List UInt8))) then ((Q3y x2.s).bind fun y1=>bif decide (y1 < 0) then (some (Lp.ret ([],x2.pos,(3:Int)))) else (bif decide (0 < y1) then ((H5 x2 y1).bind fun y2=>some (Lp.go (x1,y2))) else ((W6 x2.s).bind fun y3=>bif y3.2 != 0 then (some (Lp.ret ([],x2.pos,y3.2))) else ((Q0q (List.length x1+List.length ([{y3.1 with Pos:=x2.pos}]:List Y6))).bind fun _=>(H5 x2 (List.length y3.1.Text:Int)).bind fun y4=>some (Lp.go (x1++([{y3.1 with Pos:=x2.pos}]:List Y6),y4)))))) else (some (Lp.brk (x1,x2))))
theorem Z2c {x1:List Y6} {s:List UInt8} {p:Pos} {m:Nat} (h:Q9o p m) (h1:1≤m) (hm:m+s.length≤1000000) (hl:s.length≤100000) (hs:s ≠ []) {n:Nat} (hn:blS s=(n:Int)) (h0:0 < n) :
    Q3u (x1,⟨s,p⟩)=some (.go (x1,⟨s.drop n,adv p (s.take n)⟩)):=by
  have hb:=Q9m s hl
  unfold Q3u
  dsimp only
  rw [c1 (by simpa using hs)]
  refine bnd hb.1 ?_
  rw [hn,c0 (df (by omega)),c1 (dt (by omega))]
  refine bnd (Z6i h h1 hm (by omega)) rfl
theorem Z5c {x1:List Y6} {s:List UInt8} {p:Pos} {m:Nat} (h:Q9o p m) (h1:1≤m) (hm:m+s.length≤1000000) (hl:s.length≤100000) (hx:x1.length≤1000000) (hs:s ≠ []) (hb:blS s=0) {t:Y6} (ht:W6 s=some (t,0)) (hpre:t.Text <+: s) :
    Q3u (x1,⟨s,p⟩)=some (.go (x1 ++ [{t with Pos:=p}],⟨s.drop t.Text.length,adv p t.Text⟩)):=by
  have hbe:=Q9m s hl
  have htake:s.take t.Text.length=t.Text:=(List.prefix_iff_eq_take.1 hpre).symm
  unfold Q3u
  dsimp only
  rw [c1 (by simpa using hs)]
  refine bnd hbe.1 ?_
  rw [hb,c0 (df (by omega)),c0 (df (by omega))]
  refine bnd ht ?_
  rw [c0 (by rfl),R1 (by simp; omega),Option.bind_some]
  refine bnd (Z6i h h1 hm hpre.length_le) ?_
  rw [htake]
theorem Z5d {x1:List Y6} {p:Pos} : Q3u (x1,⟨[],p⟩)=some (.brk (x1,⟨[],p⟩)):=rfl
/-- What the lexer says of a text whose tokens are known. -/
theorem lx_run {s:List UInt8} {ts:List Y6} (h:Lx s ts) : ∀(x1:List Y6) (p:Pos) (m f:Nat),Q9o p m→1≤m→m+s.length≤1000000→s.length≤100000→x1.length+s.length≤1000000→s.length < f →
    ∃ q pe,V7 Q3u f (x1,⟨s,p⟩)=some (.brk (x1++q,⟨[],pe⟩))∧q.map Q9a=ts:=by
  induction h with
  | nil =>
    intro x1 p m f _ _ _ _ _ hf
    cases f with
    | zero=>omega
    | succ f=>exact⟨[],p,by unfold V7; rw [Z5d,List.append_nil],rfl⟩
  | @blank s ts hs n hn h0 k ih =>
    intro x1 p m f h1 h2 h3 h4 h5 hf
    have hle:=(Q9m s h4).2
    rw [hn] at hle
    have htk:(s.take n).length=n:=by rw [List.length_take]; omega
    cases f with
    | zero=>omega
    | succ f =>
      unfold V7
      rw [Z2c h1 h2 h3 h4 hs hn h0]
      have hp:=Z2h h1 h2 (s.take n)
      rw [htk] at hp
      exact ih x1 _ (m+n) f hp (by omega) (by rw [List.length_drop]; omega) (by rw [List.length_drop]; omega) (by rw [List.length_drop]; omega) (by rw [List.length_drop]; omega)
  | @tok s t ts hs hb ht k ih =>
    intro x1 p m f h1 h2 h3 h4 h5 hf
    obtain⟨y,hy,hp⟩:=Q8g s hs h4
    rw [ht] at hy
    cases hy
    have hT:Tok t s:=hp rfl
    have hpl:=hT.pre.length_le
    have hne:1≤t.Text.length:=List.length_pos_iff.2 hT.ne
    cases f with
    | zero=>omega
    | succ f =>
      unfold V7
      rw [Z5c h1 h2 h3 h4 (by omega) hs hb ht hT.pre]
      have hpp:=Z2h h1 h2 t.Text
      obtain⟨q,pe,e1,e2⟩:=ih (x1 ++ [{t with Pos:=p}]) _ (m+t.Text.length) f hpp (by omega) (by rw [List.length_drop]; omega) (by rw [List.length_drop]; omega) (by rw [List.length_drop]; simp; omega) (by rw [List.length_drop]; omega)
      refine⟨{t with Pos:=p} :: q,pe,?_,?_⟩
      · refine e1.trans ?_
        rw [List.append_assoc]; rfl
      · rw [List.map_cons,e2]
        have:=hT.pos
        congr 1
        obtain⟨a,b,c,d⟩:=t
        dsimp only at this
        subst this
        rfl
theorem posOk1:Q9o ⟨1,1⟩ 1:=⟨by decide,by decide⟩
theorem lx_lex {s:List UInt8} {ts:List Y6} (h:Lx s ts) (hl:s.length≤65536) : ∃ q pe,Q5u s=some (q,pe,0)∧q.map Q9a=ts:=by
  obtain⟨q,pe,e1,e2⟩:=lx_run h [] ⟨1,1⟩ 1 NN posOk1 (by omega) (by omega) (by omega) (by simp; omega) (Q6c (by omega))
  refine⟨q,pe,?_,e2⟩
  unfold Q5u
  rw [c0 (df (by omega))]
  exact bnd e1 rfl
/-- Whatever the text: its tokens, or an error. -/
theorem Z7j (s:List UInt8) (hl:s.length≤65536) : ∃ y,Q5u s=some y∧((y.2.2=0∧Lx s (y.1.map Q9a)) ∨ (y.2.2 ≠ 0∧y.1 = [])):=by
  unfold Q5u
  rw [c0 (df (by omega))]
  obtain⟨o,ho,hp⟩:=Q5k (R:=List Y6×Pos×Int) (body:=Q3u) (n:=NN) (s:=([],(⟨s,(⟨1,1⟩:Pos)⟩:F9)))
    (fun x=>x.2.s.length≤s.length∧Q9o x.2.pos (1+(s.length - x.2.s.length))∧x.1.length+x.2.s.length≤s.length ∧ ∀ ts,Lx x.2.s ts→Lx s (x.1.map Q9a++ts)) (fun x=>x.2.s.length)
    (fun o=>(∃ q p,o = .brk (q,⟨[],p⟩)∧Lx s (q.map Q9a)) ∨ ∃ p e,o = .ret ([],p,e)∧e ≠ 0)
    ⟨Nat.le_refl _,by dsimp only; rw [Nat.sub_self]; exact posOk1,by simp,fun ts h=>h⟩ (Q6c (by dsimp only; omega)) (by
      rintro⟨x1,⟨u,p⟩⟩ ⟨h1,h2,h3,h4⟩
      dsimp only at h1 h2 h3 h4 ⊢
      by_cases hu:u = []
      · subst hu
        exact⟨_,Z5d,.inl ⟨x1,p,rfl,by have:=h4 [] .nil; rwa [List.append_nil] at this⟩⟩
      · have hb:=Q9m u (by omega)
        by_cases hneg:blS u < 0
        · refine⟨.ret ([],p,3),?_,.inr ⟨p,3,rfl,by decide⟩⟩
          unfold Q3u
          dsimp only
          rw [c1 (by simpa using hu)]
          refine bnd hb.1 ?_
          rw [c1 (dt hneg)]
        · by_cases hpos:0 < blS u
          · obtain⟨n,hn⟩:=Int.eq_ofNat_of_zero_le (show 0≤blS u by omega)
            have htk:(u.take n).length=n:=by rw [List.length_take]; omega
            refine⟨_,Z2c h2 (by omega) (by omega) (by omega) hu hn (by omega),⟨by dsimp only; rw [List.length_drop]; omega,?_,by dsimp only; rw [List.length_drop]; omega,fun ts hts=>h4 ts (.blank hu n hn (by omega) hts)⟩,by dsimp only; rw [List.length_drop]; omega⟩
            have:=Z2h h2 (by omega) (u.take n)
            dsimp only
            rw [List.length_drop,show 1+(s.length - (u.length - n))=1+(s.length - u.length)+(u.take n).length by omega]
            exact this
          · have hz:blS u=0:=by omega
            obtain⟨⟨t,e⟩,hy,hT⟩:=Q8g u hu (by omega)
            by_cases he:e=0
            · subst he
              have hT:Tok t u:=hT rfl
              have hpl:=hT.pre.length_le
              have hne:1≤t.Text.length:=List.length_pos_iff.2 hT.ne
              refine⟨_,Z5c h2 (by omega) (by omega) (by omega) (by omega) hu hz hy hT.pre,⟨by dsimp only; rw [List.length_drop]; omega,?_,by dsimp only; rw [List.length_drop]; simp; omega,fun ts hts => ?_⟩,by dsimp only; rw [List.length_drop]; omega⟩
              · have:=Z2h h2 (by omega) t.Text
                dsimp only
                rw [List.length_drop,show 1+(s.length - (u.length - t.Text.length))=1+(s.length - u.length)+t.Text.length by omega]
                exact this
              · have:=h4 (t::ts) (.tok hu hz hy hts)
                dsimp only
                rw [List.map_append,List.append_assoc]
                have hst:Q9a {t with Pos:=p} = t:=by
                  have:=hT.pos
                  obtain⟨a,b,c,d⟩:=t
                  dsimp only at this
                  subst this
                  rfl
                rw [show List.map Q9a [{t with Pos:=p}] = [t] by rw [List.map_cons,hst]; rfl]
                exact this
            · refine⟨.ret ([],p,e),?_,.inr ⟨p,e,rfl,he⟩⟩
              unfold Q3u
              dsimp only
              rw [c1 (by simpa using hu)]
              refine bnd hb.1 ?_
              rw [c0 (df hneg),c0 (df hpos)]
              refine bnd hy ?_
              rw [c1 (by simpa using he)])
  refine exb ho ?_
  rcases hp with ⟨q,p,rfl,hL⟩ | ⟨p,e,rfl,he⟩
  · exact⟨_,rfl,.inl ⟨rfl,hL⟩⟩
  · exact⟨_,rfl,.inr ⟨he,rfl⟩⟩

/-! Tokens that stand again elsewhere. -/
/-! The reader's small steps. -/
theorem lz {t:Y6} {l:List Y6} : ((List.length (t::l):Int) == 0)=false:=beq_eq_false_iff_ne.2 (by simp only [List.length_cons]; omega)
theorem Q5t (t:Y6) (l:List Y6) (e:Pos) (d:Int):G6 ⟨t::l,e,d⟩=some t.Pos:=by
  unfold G6
  rw [c0 lz]
  rfl
theorem Q5i {t:Y6} {l:List Y6} {e:Pos} {d:Int} (h:t.Kind=4):E2 ⟨t::l,e,d⟩=some t.Text:=by
  unfold E2
  rw [c0 lz]
  refine bnd (x:=t) rfl ?_
  rw [c0 (by rw [h]; rfl)]
  rfl
theorem Z2z {t:Y6} {l:List Y6} {e:Pos} {d:Int} (h:t.Kind ≠ 4):E2 ⟨t::l,e,d⟩=some []:=by
  unfold E2
  rw [c0 lz]
  refine bnd (x:=t) rfl ?_
  rw [c1 (by simpa using h)]
theorem is_hit {t:Y6} {l:List Y6} {e:Pos} {d:Int} {m:List UInt8} (h:t.Text=m) (hk:t.Kind=2 ∨ t.Kind=4):U0 ⟨t::l,e,d⟩ m=some true:=by
  unfold U0 M1
  rw [c1 (dt (by simp only [List.length_cons]; omega))]
  refine bnd (x:=true) (bnd (x:=t) rfl ?_) rfl
  rw [c1 (dt h)]
  refine bnd (x:=t) rfl ?_
  rcases hk with hk | hk
  · rw [c1 (by rw [hk]; rfl)]
  · rw [c0 (by rw [hk]; rfl)]
    refine bnd (x:=t) rfl ?_
    rw [hk]; rfl
theorem Z6q {t:Y6} {l:List Y6} {e:Pos} {d:Int} {m:List UInt8} (h:t.Text ≠ m):U0 ⟨t::l,e,d⟩ m=some false:=by
  unfold U0 M1
  rw [c1 (dt (by simp only [List.length_cons]; omega))]
  refine bnd (x:=false) (bnd (x:=t) rfl ?_) rfl
  rw [c0 (df h)]
theorem Q8x {α : Type} (t : α) (l:List α):sub (t::l) 1 (List.length (t::l):Int)=some l:=by
  unfold sub
  rw [if_pos (by simp only [List.length_cons]; omega)]
  simp
theorem Q8w {t:Y6} {l:List Y6} {e:Pos} {d:Int} {m:List UInt8} (h:t.Text=m) (hk:t.Kind=2 ∨ t.Kind=4):Y4 ⟨t::l,e,d⟩ m=some (true,⟨l,e,d⟩):=by
  unfold Y4
  refine bnd (is_hit h hk) ?_
  refine(c0 (by rfl)).trans ?_
  exact bnd (Q8x t l) rfl
theorem Q7i {t:Y6} {l:List Y6} {e:Pos} {d:Int} {m:List UInt8} (h:t.Text ≠ m):Y4 ⟨t::l,e,d⟩ m=some (false,⟨t::l,e,d⟩):=by
  unfold Y4
  exact bnd (Z6q h) rfl
theorem must_hit {t:Y6} {l:List Y6} {e:Pos} {d:Int} {m:List UInt8} (h:t.Text=m) (hk:t.Kind=2 ∨ t.Kind=4):Y0 ⟨t::l,e,d⟩ m=some (.ok ⟨l,e,d⟩):=by
  unfold Y0
  exact bnd (Q8w h hk) rfl
theorem Z1y {t:Y6} {l:List Y6} {e:Pos} {d k:Int} (h:t.Kind=k):P9 ⟨t::l,e,d⟩ k=some (.ok (t,⟨l,e,d⟩)):=by
  unfold P9 jn
  dsimp only
  rw [c0 lz]
  refine bnd (x:=t) rfl ?_
  rw [c0 (by rw [h]; exact bne_self_eq_false k)]
  refine bnd (x:=t) rfl ?_
  exact bnd (Q8x t l) rfl
theorem name_hit {t:Y6} {l:List Y6} {e:Pos} {d:Int} (h:t.Kind=1):K8 ⟨t::l,e,d⟩=some (.ok (t.Text,⟨l,e,d⟩)):=by
  unfold K8
  exact bnd (Z1y h) rfl
theorem Q7n {l:List Y6} {e:Pos} {d:Int} (h0:0≤d) (h:d < 200):E3 ⟨l,e,d⟩=some (.ok ⟨l,e,d+1⟩):=by
  unfold E3 jn
  dsimp only
  rw [c0 (beq_eq_false_iff_ne.2 (by omega)),w64 (by omega)]
theorem Z7o (t:Y6) (l:List Y6) (e:Pos):E3 ⟨t::l,e,200⟩=some (.error (⟨t.Pos,2⟩,⟨t::l,e,200⟩)):=by
  unfold E3 jn
  dsimp only
  refine(c1 (by rfl)).trans ?_
  unfold C8
  refine bnd (bnd (Q5t t l e 200) rfl) rfl

/-! Brackets in one another. -/
def ps (b:UInt8) (c:Nat):Nat→List Y6
  | 0 => []
  | a+1=>⟨4,[b],0,⟨1,(c:Int)⟩⟩::ps b (c+1) a
theorem Z6k (b:UInt8) : ∀(a c:Nat),ps b c (a+1)=ps b c a ++ [⟨4,[b],0,⟨1,((c+a:Nat):Int)⟩⟩]
  | 0,c=>rfl
  | a+1,c=>by
    have:=Z6k b a (c+1)
    show _::ps b (c+1) (a+1)=_
    rw [this,show c+1+a=c+(a+1) by omega]
    rfl
theorem ps_len (b:UInt8) : ∀(a c:Nat),(ps b c a).length=a
  | 0,c=>rfl
  | a+1,c=>by show (ps b (c+1) a).length+1=a+1; rw [ps_len b a (c+1)]
/-- What ends an expression here. -/
def Stop (q:Y6):Prop:=q.Kind=4∧(q.Text = [41] ∨ q.Text = [59])
theorem Z6y {q:Y6} (h:Stop q) {m:List UInt8} (h1:([41]:List UInt8) ≠ m) (h2:([59]:List UInt8) ≠ m):q.Text ≠ m:=by
  rcases h.2 with e | e <;> rw [e] <;> assumption
theorem Z7b {q:Y6} (h:Stop q):Q2l q.Text=some 0:=by
  rcases h.2 with e | e <;> rw [e] <;> rfl
theorem Z3u {q:Y6} (h:Stop q):Q0k q.Text=some false:=by
  rcases h.2 with e | e <;> rw [e] <;> rfl
/-- What may begin an expression here. -/
def Z5e (t:Y6):Prop:=(t.Kind=4∧t.Text = [40]) ∨ (t.Kind=3∧t.Text = [49])
theorem Z5m {q:Y6} (h:Z5e q) {m:List UInt8} (h1:([40]:List UInt8) ≠ m) (h2:([49]:List UInt8) ≠ m):q.Text ≠ m:=by
  rcases h with e | e <;> rw [e.2] <;> assumption
theorem Z0e (G:Q6b) {t:Y6} (ht:Z5e t) (l:List Y6) (e:Pos) {d:Int} (h0:0≤d) (h:d < 200) {y:Except (Q8×Q1) (Z6×Q1)} (hp:G.F2 ⟨t::l,e,d+1⟩=some y) :
    M5 G ⟨t::l,e,d⟩=exC y (fun y12=>some (Except.ok (y12.1,{y12.2 with depth:=IntKind.wrap .i64 (y12.2.depth - 1)}))) (fun e6=>some (Except.error (e6.1,{e6.2 with depth:=IntKind.wrap .i64 (e6.2.depth - 1)}))):=by
  have key : ∀ y2,E2 ⟨t::l,e,d+1⟩=some y2→y2 = [40] ∨ y2 = []→M5 G ⟨t::l,e,d⟩=exC y (fun y12=>some (Except.ok (y12.1,{y12.2 with depth:=IntKind.wrap .i64 (y12.2.depth - 1)}))) (fun e6=>some (Except.error (e6.1,{e6.2 with depth:=IntKind.wrap .i64 (e6.2.depth - 1)}))):=by
    intro y2 hm hy
    unfold M5
    refine bnd (Q7n h0 h) ?_
    dsimp only [exC]
    refine bnd hm ?_
    have hgo:((G6 ⟨t::l,e,d+1⟩).bind fun y7=>(Y4 ⟨t::l,e,d+1⟩ ([115,105,122,101,111,102]:List UInt8)).bind fun y8=>bif y8.1 then ((Y0 y8.2 ([40]:List UInt8)).bind fun y9=>exC y9 (fun y9=>(J5 y9).bind fun y10=>exC y10 (fun y10=>(Y0 y10.2 ([41]:List UInt8)).bind fun y11=>exC y11 (fun y11=>some (Except.ok ((⟨12,y7,([]:List UInt8),([]:List UInt8),0,y10.1,[]⟩:Z6),{y11 with depth:=IntKind.wrap .i64 (y11.depth - 1)}))) (fun e4=>some (Except.error (e4.1,{e4.2 with depth:=IntKind.wrap .i64 (e4.2.depth - 1)})))) (fun e3=>some (Except.error (e3.1,{e3.2 with depth:=IntKind.wrap .i64 (e3.2.depth - 1)})))) (fun e5=>some (Except.error (e5.1,{e5.2 with depth:=IntKind.wrap .i64 (e5.2.depth - 1)})))) else ((G.F2 y8.2).bind fun y12=>exC y12 (fun y12=>some (Except.ok (y12.1,{y12.2 with depth:=IntKind.wrap .i64 (y12.2.depth - 1)}))) (fun e6=>some (Except.error (e6.1,{e6.2 with depth:=IntKind.wrap .i64 (e6.2.depth - 1)})))))=exC y (fun y12=>some (Except.ok (y12.1,{y12.2 with depth:=IntKind.wrap .i64 (y12.2.depth - 1)}))) (fun e6=>some (Except.error (e6.1,{e6.2 with depth:=IntKind.wrap .i64 (e6.2.depth - 1)}))):=by
      refine bnd (Q5t _ _ _ _) ?_
      refine bnd (Q7i (Z5m ht (by decide) (by decide))) ?_
      exact bnd hp rfl
    rcases hy with rfl | rfl
    · exact hgo
    · exact hgo
  rcases ht with ⟨k,x⟩ | ⟨k,x⟩
  · exact key _ (Q5i k) (.inl x)
  · exact key _ (Z2z (by rw [k]; decide)) (.inr rfl)
theorem Z7a (n:Nat) (p:Q1):(C1 (n+1)).Y2 p=E0 (C1 n) p:=rfl
theorem Z1o (n:Nat) (p:Q1):(C1 (n+1)).F8 p=P7 (C1 n) p:=rfl
/-- A failure comes up. -/
theorem up_no (n:Nat) {t:Y6} (ht:Z5e t) (l:List Y6) (e:Pos) {d:Int} (h0:0≤d) (h:d+1 < 200) {x:Q8} {s:Q1} (hp:(C1 n).F8 ⟨t::l,e,d+2⟩=some (.error (x,s))) :
    ∃ s,(C1 (n+5)).Y2 ⟨t::l,e,d⟩=some (.error (x,s)):=by
  have h1:(C1 (n+1)).F2 ⟨t::l,e,d+1+1⟩=some (.error (x,s)):=by
    show N6 (C1 n) _=_
    unfold N6
    rw [show d+1+1=d+2 by omega]
    exact bnd hp rfl
  obtain⟨s2,h2⟩ : ∃ s,(C1 (n+2)).K5 ⟨t::l,e,d+1⟩=some (.error (x,s)):=⟨_,Z0e (C1 (n+1)) ht l e (by omega) h h1⟩
  have h3:(C1 (n+3)).J4 ⟨t::l,e,d+1⟩ 1=some (.error (x,s2)):=by
    show B9 (C1 (n+2)) _ _=_
    unfold B9
    exact bnd h2 rfl
  have h4:(C1 (n+4)).F3 ⟨t::l,e,d+1⟩=some (.error (x,s2)):=by
    show N7 (C1 (n+3)) _=_
    unfold N7
    exact bnd h3 rfl
  apply Exists.intro
  show E0 (C1 (n+4)) _=_
  unfold E0
  refine bnd (Q7n h0 (by omega)) ?_
  dsimp only [exC]
  exact bnd h4 rfl
theorem up_ok (n:Nat) {t:Y6} (ht:Z5e t) (l:List Y6) (e:Pos) {d:Int} (h0:0≤d) (h:d+1 < 200) {x:Z6} {q:Y6} (hq:Stop q) {r:List Y6} (hp:(C1 n).F8 ⟨t::l,e,d+2⟩=some (.ok (x,⟨q::r,e,d+2⟩))) :
    (C1 (n+5)).Y2 ⟨t::l,e,d⟩=some (.ok (x,⟨q::r,e,d⟩)):=by
  have h1:(C1 (n+1)).F2 ⟨t::l,e,d+1+1⟩=some (.ok (x,⟨q::r,e,d+1+1⟩)):=by
    show N6 (C1 n) _=_
    unfold N6
    rw [show d+1+1=d+2 by omega]
    refine bnd hp ?_
    dsimp only [exC]
    refine run_bind (fun _=>(x,(⟨q::r,e,d+2⟩:Q1))) 0 (.ret (Except.ok (x,⟨q::r,e,d+2⟩))) rfl (by omega) (fun k hk=>by omega) ?_ trivial rfl
    dsimp only [jn]
    refine bnd (Q5i hq.1) ?_
    rcases hq.2 with e1 | e1 <;> rw [e1] <;> rfl
  have h2:(C1 (n+2)).K5 ⟨t::l,e,d+1⟩=some (.ok (x,⟨q::r,e,d+1⟩)):=by
    refine(Z0e (C1 (n+1)) ht l e (by omega) h h1).trans ?_
    dsimp only [exC]
    rw [w64 (by omega),show d+1+1 - 1=d+1 by omega]
  have h3:(C1 (n+3)).J4 ⟨t::l,e,d+1⟩ 1=some (.ok (x,⟨q::r,e,d+1⟩)):=by
    show B9 (C1 (n+2)) _ _=_
    unfold B9
    refine bnd h2 ?_
    dsimp only [exC]
    refine run_bind (fun _=>(x,(⟨q::r,e,d+1⟩:Q1))) 0 (.ret (Except.ok (x,⟨q::r,e,d+1⟩))) rfl (by omega) (fun k hk=>by omega) ?_ trivial rfl
    dsimp only
    refine bnd (Q5i hq.1) ?_
    exact bnd (Z7b hq) rfl
  have h4:(C1 (n+4)).F3 ⟨t::l,e,d+1⟩=some (.ok (x,⟨q::r,e,d+1⟩)):=by
    show N7 (C1 (n+3)) _=_
    unfold N7
    refine bnd h3 ?_
    dsimp only [exC]
    refine bnd (Q5i hq.1) ?_
    rw [c1 (by rw [df (Z6y hq (by decide) (by decide))]; rfl)]
  show E0 (C1 (n+4)) _=_
  unfold E0
  refine bnd (Q7n h0 (by omega)) ?_
  dsimp only [exC]
  refine bnd h4 ?_
  dsimp only [exC]
  refine bnd (Q5i hq.1) ?_
  refine bnd (Z3u hq) ?_
  refine(c1 (by rfl)).trans ?_
  rw [w64 (by omega),show d+1 - 1=d by omega]
def one (c:Nat):Y6:=⟨3,[49],1,⟨1,(c:Int)⟩⟩
theorem ps_start (c a:Nat) (o:Nat) (r:List Y6) : ∃ t l,ps 40 c a++one o::r=t::l∧Z5e t:=by
  cases a with
  | zero=>exact⟨_,_,rfl,.inr ⟨rfl,rfl⟩⟩
  | succ a=>exact⟨_,_,rfl,.inl ⟨rfl,rfl⟩⟩
/-- Too deep. -/
theorem deep_no : ∀(j n c:Nat) (t:Y6) (l:List Y6) (e:Pos),j≤100 → ∃ s,(C1 (6 * j+1+n)).Y2 ⟨ps 40 c j++t::l,e,200 - 2 * (j:Int)⟩=some (.error (⟨t.Pos,2⟩,s))
  | 0,n,c,t,l,e,_=>by
    refine⟨⟨t::l,e,200⟩,?_⟩
    rw [show 6 * 0+1+n=n+1 by omega]
    refine(Z7a _ _).trans ?_
    unfold E0
    exact bnd (Z7o t l e) rfl
  | j+1,n,c,t,l,e,hj=>by
    obtain⟨s,ih⟩:=deep_no j n (c+1) t l e (by omega)
    rw [show 6 * (j+1)+1+n=(6 * j+1+n+1)+5 by omega]
    refine up_no (6 * j+1+n+1) (t:=⟨4,[40],0,⟨1,(c:Int)⟩⟩) (.inl ⟨rfl,rfl⟩) (ps 40 (c+1) j++t::l) e (by omega) (by omega) (s:=s) ?_
    rw [show 200 - 2 * ((j+1:Nat):Int)+2=200 - 2 * (j:Int) by omega]
    refine(Z1o _ _).trans ?_
    unfold P7
    refine bnd (Q5t _ _ _ _) ?_
    dsimp only [jn]
    refine bnd (Q8w rfl (.inr rfl)) ?_
    refine(c1 (by rfl)).trans ?_
    exact bnd ih rfl
/-- Deep, not too deep. -/
theorem deep_ok : ∀(j n c o c2:Nat) (q:Y6) (l:List Y6) (e:Pos) (d:Int),Stop q→0≤d→d+2+2 * (j:Int)≤200 → ∃ x,(C1 (6 * j+6+n)).Y2 ⟨ps 40 c j++one o::(ps 41 c2 j++q::l),e,d⟩=some (.ok (x,⟨q::l,e,d⟩))
  | 0,n,c,o,c2,q,l,e,d,hq,h0,h=>by
    refine⟨⟨1,⟨1,(o:Int)⟩,[],[],1,⟨[],[],0⟩,[]⟩,?_⟩
    rw [show 6 * 0+6+n=(n+1)+5 by omega]
    refine up_ok (n+1) (t:=one o) (.inr ⟨rfl,rfl⟩) (q::l) e h0 (by omega) hq ?_
    refine(Z1o _ _).trans ?_
    unfold P7
    refine bnd (Q5t _ _ _ _) ?_
    dsimp only [jn]
    refine bnd (Q7i (show ([49]:List UInt8) ≠ _ by decide)) ?_
    refine(c0 (by rfl)).trans ?_
    refine bnd (Q7i (show ([49]:List UInt8) ≠ _ by decide)) ?_
    refine(c0 (by rfl)).trans ?_
    refine bnd (Q7i (show ([49]:List UInt8) ≠ _ by decide)) ?_
    refine(c0 (by rfl)).trans ?_
    rw [c1 (dt (by simp only [List.length_cons]; omega))]
    refine bnd (x:=one o) rfl ?_
    refine(c1 (by rfl)).trans ?_
    exact bnd (Z1y rfl) rfl
  | j+1,n,c,o,c2,q,l,e,d,hq,h0,h=>by
    obtain⟨x,ih⟩:=deep_ok j n (c+1) o c2 ⟨4,[41],0,⟨1,((c2+j:Nat):Int)⟩⟩ (q::l) e (d+2) ⟨rfl,.inl rfl⟩ (by omega) (by omega)
    refine⟨x,?_⟩
    rw [show 6 * (j+1)+6+n=(6 * j+6+n+1)+5 by omega,Z6k 41,List.append_assoc]
    refine up_ok (6 * j+6+n+1) (t:=⟨4,[40],0,⟨1,(c:Int)⟩⟩) (.inl ⟨rfl,rfl⟩) _ e h0 (by omega) hq ?_
    refine(Z1o _ _).trans ?_
    unfold P7
    refine bnd (Q5t _ _ _ _) ?_
    dsimp only [jn]
    refine bnd (Q8w rfl (.inr rfl)) ?_
    refine(c1 (by rfl)).trans ?_
    refine bnd ih ?_
    dsimp only [exC]
    exact bnd (must_hit rfl (.inr rfl)) rfl
theorem Z6.ind {P:Z6→Prop} (h : ∀ x,(∀ k ∈ x.Kids,P k)→P x) : ∀ x,P x
  | ⟨a,b,c,d,e,f,ks⟩=>h _ fun k hk=>Z6.ind h k
termination_by x=>SizeOf.sizeOf x
decreasing_by
  have:=List.sizeOf_lt_of_mem hk
  simp only [Z6.mk.sizeOf_spec]
  dsimp only at this
  omega
theorem U5.ind {P:U5→Prop} (h : ∀ x,(∀ k ∈ x.Body,P k)→(∀ k ∈ x.Else,P k)→(∀ c ∈ x.Cases,∀ k ∈ c.Body,P k)→P x) : ∀ x,P x
  | ⟨a,b,c,d,e,f,bs,es,cs⟩=>h _ (fun k hk=>U5.ind h k) (fun k hk=>U5.ind h k) (fun c hc k hk=>U5.ind h k)
termination_by x=>SizeOf.sizeOf x
decreasing_by
  · have:=List.sizeOf_lt_of_mem hk
    simp only [U5.mk.sizeOf_spec]
    dsimp only at this
    omega
  · have:=List.sizeOf_lt_of_mem hk
    simp only [U5.mk.sizeOf_spec]
    dsimp only at this
    omega
  · have h1:=List.sizeOf_lt_of_mem hk
    have h2:=List.sizeOf_lt_of_mem hc
    simp only [U5.mk.sizeOf_spec]
    dsimp only at h2
    obtain⟨c1,c2,c3,c4⟩:=c
    simp only [Z0b.mk.sizeOf_spec] at h2
    dsimp only at h1
    omega
/-- A tree without its places. -/
def plE:Z6→Z6
  | ⟨a,b,c,d,e,f,ks⟩=>⟨a,⟨0,0⟩,c,d,e,f,ks.attach.map fun k=>plE k.1⟩
termination_by x=>SizeOf.sizeOf x
decreasing_by
  have:=List.sizeOf_lt_of_mem k.2
  simp only [Z6.mk.sizeOf_spec]
  omega
theorem Q2a (x:Z6):plE x = {x with Pos:=⟨0,0⟩,Kids:=x.Kids.map plE} := by
  obtain⟨a,b,c,d,e,f,ks⟩:=x
  rw [plE]
  simp
def plV (v:J8):J8 := {v with Pos:=⟨0,0⟩,Init:=v.Init.map plE}
def plS:U5→U5
  | ⟨a,b,c,d,e,f,bs,es,cs⟩=>⟨a,⟨0,0⟩,c.map plE,d.map plE,e.map plE,f.map plV,bs.attach.map fun k=>plS k.1,es.attach.map fun k=>plS k.1,cs.attach.map fun c => {c.1 with Pos:=⟨0,0⟩,Body:=c.1.Body.attach.map fun k=>plS k.1}⟩
termination_by x=>SizeOf.sizeOf x
decreasing_by
  · have:=List.sizeOf_lt_of_mem k.2
    simp only [U5.mk.sizeOf_spec]
    omega
  · have:=List.sizeOf_lt_of_mem k.2
    simp only [U5.mk.sizeOf_spec]
    omega
  · have h1:=List.sizeOf_lt_of_mem k.2
    have h2:=List.sizeOf_lt_of_mem c.2
    obtain⟨⟨c1,c2,c3,c4⟩,hc⟩:=c
    simp only [Z0b.mk.sizeOf_spec] at h2
    simp only [U5.mk.sizeOf_spec]
    dsimp only at h1
    omega
def plC (c:K7):K7 := {c with Pos:=⟨0,0⟩,Body:=c.Body.map plS}
theorem Q1z (x:U5):plS x=⟨x.Kind,⟨0,0⟩,x.A.map plE,x.B.map plE,x.C.map plE,x.Var.map plV,x.Body.map plS,x.Else.map plS,x.Cases.map plC⟩:=by
  obtain⟨a,b,c,d,e,f,bs,es,cs⟩:=x
  rw [plS]
  simp [plC]
def plT (s:F7):F7:=⟨⟨0,0⟩,s.Name,s.Fields.map plV⟩
def plF (f:P4):P4:=⟨⟨0,0⟩,f.Ret,f.Name,f.Params.map plV,f.Body.map plS⟩
def plP (p:K4):K4:=⟨p.Structs.map plT,p.Globals.map plV,p.Funcs.map plF⟩
theorem Z1c (x:Z6):plE (plE x)=plE x:=by
  induction x using Z6.ind with
  | h x ih =>
    rw [Q2a x,Q2a]
    dsimp only
    rw [List.map_map]
    congr 1
    exact List.map_congr_left ih
theorem mpp {α : Type} {f : α → α} {l:List α} (h : ∀ x ∈ l,f (f x)=f x):(l.map f).map f=l.map f:=by
  rw [List.map_map]
  exact List.map_congr_left h
theorem Z1b (v:J8):plV (plV v)=plV v:=by
  unfold plV
  dsimp only
  rw [mpp fun x _=>Z1c x]
theorem plS_plS (x:U5):plS (plS x)=plS x:=by
  induction x using U5.ind with
  | h x h1 h2 h3 =>
    rw [Q1z x,Q1z]
    dsimp only
    rw [mpp fun x _=>Z1c x,mpp fun x _=>Z1c x,mpp fun x _=>Z1c x,mpp fun x _=>Z1b x,mpp h1,mpp h2]
    congr 1
    refine mpp fun c hc => ?_
    unfold plC
    dsimp only
    rw [mpp (h3 c hc)]
theorem Z6m (p:K4):plP (plP p)=plP p:=by
  unfold plP
  dsimp only
  rw [mpp fun v _=>Z1b v]
  congr 1
  · refine mpp fun s _ => ?_
    unfold plT
    dsimp only
    rw [mpp fun v _=>Z1b v]
  · refine mpp fun s _ => ?_
    unfold plF
    dsimp only
    rw [mpp fun v _=>Z1b v,mpp fun v _=>plS_plS v]
def wE:Z6→Nat
  | ⟨a,b,c,d,e,f,ks⟩=>1+f.Stars.toNat+(ks.attach.map fun k=>wE k.1).sum
termination_by x=>SizeOf.sizeOf x
decreasing_by
  have:=List.sizeOf_lt_of_mem k.2
  simp only [Z6.mk.sizeOf_spec]
  omega
def sm {α : Type} (w : α → Nat) (l:List α):Nat:=(l.map w).sum
theorem Z0d (x:Z6):wE x=1+x.Type_.Stars.toNat+sm wE x.Kids:=by
  obtain⟨a,b,c,d,e,f,ks⟩:=x
  rw [wE]
  simp [sm]
def wV (v:J8):Nat:=1+v.Type_.Stars.toNat+v.Dims.length+sm wE v.Init
def wS:U5→Nat
  | ⟨a,b,c,d,e,f,bs,es,cs⟩=>1+sm wE c+sm wE d+sm wE e+sm wV f+(bs.attach.map fun k=>wS k.1).sum+(es.attach.map fun k=>wS k.1).sum+(cs.attach.map fun c=>1+(c.1.Body.attach.map fun k=>wS k.1).sum).sum
termination_by x=>SizeOf.sizeOf x
decreasing_by
  · have:=List.sizeOf_lt_of_mem k.2
    simp only [U5.mk.sizeOf_spec]
    omega
  · have:=List.sizeOf_lt_of_mem k.2
    simp only [U5.mk.sizeOf_spec]
    omega
  · have h1:=List.sizeOf_lt_of_mem k.2
    have h2:=List.sizeOf_lt_of_mem c.2
    obtain⟨⟨c1,c2,c3,c4⟩,hc⟩:=c
    simp only [Z0b.mk.sizeOf_spec] at h2
    simp only [U5.mk.sizeOf_spec]
    dsimp only at h1
    omega
def wC (c:K7):Nat:=1+sm wS c.Body
theorem Z0c (x:U5):wS x=1+sm wE x.A+sm wE x.B+sm wE x.C+sm wV x.Var+sm wS x.Body+sm wS x.Else+sm wC x.Cases:=by
  obtain⟨a,b,c,d,e,f,bs,es,cs⟩:=x
  rw [wS]
  simp [sm]
  rfl
def wT (s:F7):Nat:=1+sm wV s.Fields
def wF (f:P4):Nat:=1+f.Ret.Stars.toNat+sm wV f.Params+sm wS f.Body
def wP (p:K4):Nat:=sm wT p.Structs+sm wV p.Globals+sm wF p.Funcs
theorem B3 {α : Type} (w : α → Nat) (x : α) (l:List α):sm w (x::l)=w x+sm w l:=by simp [sm]
theorem Q0t {α : Type} (w : α → Nat) (a b:List α):sm w (a++b)=sm w a+sm w b:=by simp [sm]
theorem I0 {α : Type} {w : α → Nat} {x : α} : ∀ {l:List α},x ∈ l→w x≤sm w l
  | y::l,h=>by
    rw [B3]
    rcases List.mem_cons.1 h with rfl | h
    · omega
    · have:=I0 (w:=w) h; omega
theorem M0 {α : Type} {w : α → Nat} (hw : ∀ x,1≤w x) : ∀ l:List α,l.length≤sm w l
  | []=>Nat.zero_le _
  | x::l=>by rw [B3,List.length_cons]; have:=M0 hw l; have:=hw x; omega
theorem Q0a (x:Z6):1≤wE x:=by rw [Z0d]; omega
theorem Q2j (x:J8):1≤wV x:=by unfold wV; omega
theorem Q2k (x:U5):1≤wS x:=by rw [Z0c]; omega
theorem Z3e (x:K7):1≤wC x:=by unfold wC; omega
theorem Z1g (x:F7):1≤wT x:=by unfold wT; omega
theorem Z1h (x:P4):1≤wF x:=by unfold wF; omega
/-- A loop that makes each element anew. -/
theorem Q4b {α : Type} {f : α → Option α} (g : α → α) (l:List α) (hl:l.length≤8589934592) (h : ∀ x ∈ l,f x=some (g x)) :
    ((Q0q (List.length ([]:List α)+List.length l)).bind fun _=>some (([]:List α)++l)).bind (fun y1=>(V7 (fun(x1,x2)=>(bif decide (x2 < (List.length y1:Int)) then ((idx x1 x2).bind fun u1=>(f u1).bind fun y2=>(idx x1 x2).bind fun u2=>(idx x1 x2).bind fun u3=>some (Lp.go (List.set x1 (Int.toNat x2) y2,IntKind.wrap .i64 (x2+1)))) else (some (Lp.brk (x1,x2))):Option (Lp ((List α)×Int) (Unit)))) NN (y1,(0:Int))).bind fun o=>o.thn (fun(x1,x2)=>some x1) (fun _=>none))=some (l.map g):=by
  rw [R1 (by simpa using hl)]
  simp only [Option.bind_some,List.nil_append]
  refine run_bind (fun k=>((l.take k).map g++l.drop k,(k:Int))) l.length (.brk (l.map g,(l.length:Int))) (by simp) (by omega) (fun k hk => ?_) ?_ trivial rfl
  · have hlen:((l.take k).map g++l.drop k).length=l.length:=by simp; omega
    have hk' : k < ((l.take k).map g++l.drop k).length:=by omega
    have hget:((l.take k).map g++l.drop k)[k]=l[k]:=by
      rw [List.getElem_append_right (by simp; omega)]
      simp only [List.length_map,List.length_take,List.getElem_drop]
      congr 1
      omega
    dsimp only
    rw [c1 (dlt hk),N8 hk',hget]
    simp only [Option.bind_some]
    rw [h _ (List.getElem_mem hk)]
    simp only [Option.bind_some]
    rw [w64 (by omega),Int.toNat_natCast]
    congr 2
    rw [Prod.mk.injEq]
    refine⟨?_,by omega⟩
    rw [List.set_append_right _ _ (by simp; omega),List.take_succ_eq_append_getElem hk,List.map_append,List.append_assoc]
    congr 1
    simp only [List.length_map,List.length_take]
    rw [show k - min k l.length=0 by omega,List.drop_eq_getElem_cons hk]
    rfl
  · dsimp only
    rw [c0 (dge _)]
    simp
theorem each3 {n m:Nat} (hP : ∀ x,wE x≤n→(rec5 m).C6 x=some (plE x)) (l:List Z6) (hl:sm wE l≤n) (hn:n≤1000000):(rec5 (m+1)).C7 l=some (l.map plE):=by
  have:=M0 Q0a l
  exact Q4b (f:=(rec5 m).C6) plE l (by omega) fun x hx=>hP x (Nat.le_trans (I0 hx) hl)
theorem Z6l : ∀(n:Nat),n≤1000000 → ∀ m,2 * n≤m → ∀ x,wE x≤n→(rec5 m).C6 x=some (plE x)
  | 0,_,m,_,x,hx=>by have:=Q0a x; omega
  | n+1,hn,m,hm,x,hx=>by
    obtain⟨k,rfl⟩ : ∃ k,m=k+1+1:=⟨m - 2,by omega⟩
    have hw:=Z0d x
    have h3:=each3 (Z6l n (by omega) k (by omega)) x.Kids (by omega) (by omega)
    show W5 (rec5 (k+1)) x=_
    unfold W5
    rw [Q2a]
    exact bnd h3 rfl
theorem Q9j (l:List Z6) (h:sm wE l≤1000000):C7 l=some (l.map plE):=by
  obtain⟨k,hk⟩ : ∃ k,NN=k+1:=⟨NN - 1,by unfold NN; omega⟩
  unfold C7
  rw [hk]
  exact each3 (Z6l 1000000 (by omega) k (by unfold NN at hk; omega)) l h (by omega)
theorem plainV (v:J8) (h:wV v≤1000000):Q1k v=some (plV v):=by
  unfold wV at h
  unfold Q1k Q1x
  rw [R1 (by simp; omega)]
  exact bnd rfl (bnd (Q9j _ (by omega)) rfl)
theorem Q9k (l:List J8) (h:sm wV l≤1000000):Q1c l=some (l.map plV):=by
  have:=M0 Q2j l
  exact Q4b plV l (by omega) fun x hx=>plainV x (Nat.le_trans (I0 hx) h)
theorem each1_eq (l:List F7) (h:sm wT l≤1000000):Q7h l=some (l.map plT):=by
  have:=M0 Z1g l
  refine Q4b plT l (by omega) fun x hx => ?_
  have hx:=I0 (w:=wT) hx
  unfold wT at hx
  unfold wT at h
  unfold Q3s
  exact bnd (Q9k _ (by omega)) rfl
theorem each5 {n m:Nat} (hP : ∀ x,wS x≤n→(Q6k m).N9 x=some (plS x)) (l:List U5) (hl:sm wS l≤n) (hn:n≤1000000):(Q6k (m+1)).M7 l=some (l.map plS):=by
  have:=M0 Q2k l
  exact Q4b (f:=(Q6k m).N9) plS l (by omega) fun x hx=>hP x (Nat.le_trans (I0 hx) hl)
theorem each6 {n m:Nat} (hP : ∀ x,wS x≤n→(Q6k m).N9 x=some (plS x)) (l:List K7) (hl:sm wC l≤n+1) (hn:n+1≤1000000):(Q6k (m+3)).R9 l=some (l.map plC):=by
  have:=M0 Z3e l
  refine Q4b (f:=(Q6k (m+2)).A0) plC l (by omega) fun c hc => ?_
  have hc:=I0 (w:=wC) hc
  unfold wC at hc
  unfold wC at hl
  show O1 (Q6k (m+1)) c=_
  unfold O1
  exact bnd (each5 hP c.Body (by omega) (by omega)) rfl
theorem Z1a : ∀(n:Nat),n≤1000000 → ∀ m,4 * n≤m → ∀ x,wS x≤n→(Q6k m).N9 x=some (plS x)
  | 0,_,m,_,x,hx=>by have:=Q2k x; omega
  | n+1,hn,m,hm,x,hx=>by
    obtain⟨k,rfl⟩ : ∃ k,m=k+3+1:=⟨m - 4,by omega⟩
    have hw:=Z0c x
    show W4 (Q6k (k+3)) x=_
    unfold W4
    rw [Q1z]
    refine bnd (Q9j _ (by omega)) ?_
    refine bnd (Q9j _ (by omega)) ?_
    refine bnd (Q9j _ (by omega)) ?_
    refine bnd (Q9k _ (by omega)) ?_
    refine bnd (each5 (Z1a n (by omega) (k+2) (by omega)) x.Body (by omega) (by omega)) ?_
    refine bnd (each5 (Z1a n (by omega) (k+2) (by omega)) x.Else (by omega) (by omega)) ?_
    exact bnd (each6 (Z1a n (by omega) k (by omega)) x.Cases (by omega) (by omega)) rfl
theorem each5_eq (l:List U5) (h:sm wS l≤1000000):M7 l=some (l.map plS):=by
  obtain⟨k,hk⟩ : ∃ k,NN=k+1:=⟨NN - 1,by unfold NN; omega⟩
  unfold M7
  rw [hk]
  exact each5 (Z1a 1000000 (by omega) k (by unfold NN at hk; omega)) l h (by omega)
theorem each4_eq (l:List P4) (h:sm wF l≤1000000):Q4u l=some (l.map plF):=by
  have:=M0 Z1h l
  refine Q4b plF l (by omega) fun x hx => ?_
  have hx:=I0 (w:=wF) hx
  unfold wF at hx
  unfold wF at h
  unfold Q3r
  exact bnd (Q9k _ (by omega)) (bnd (each5_eq _ (by omega)) rfl)
theorem Z5f (p:K4) (h:wP p≤1000000):Q2m p=some (plP p):=by
  unfold wP at h
  unfold Q2m
  exact bnd (each1_eq _ (by omega)) (bnd (Q9k _ (by omega)) (bnd (each4_eq _ (by omega)) rfl))
theorem Q6a {R A:Type} {body:Int→Option (Lp Int R)} {K:Lp Int R→Option A} {X:Option A} (n:Nat) (hn:n≤1000000000) (hs : ∀ k:Nat,k < n→body (k:Int)=some (.go (IntKind.wrap .i64 ((k:Int)+1))))
    (he:body (n:Int)=some (.brk (n:Int))) (hX:K (.brk (n:Int))=X):(V7 body NN 0).bind K=X:=by
  refine run_bind (fun k=>(k:Int)) n (.brk (n:Int)) rfl (by omega) (fun k hk => ?_) he trivial hX
  rw [hs k hk,w64 (by omega)]
  congr 1
theorem Q7k {α β : Type} {f : α → β} {l l' : List α} (h:l.map f=l'.map f) {k:Nat} (hk:k < l.length) (hk' : k < l'.length):f l[k]=f l'[k]:=by
  have e:(l.map f)[k]'(by simpa using hk)=(l'.map f)[k]'(by simpa using hk'):=by simp only [h]
  simpa using e
theorem Q4x {α β : Type} {f : α → β} {l l' : List α} (h:l.map f=l'.map f):l.length=l'.length:=by
  have:=congrArg List.length h
  simpa using this
theorem lne {a b:Nat} (h:a=b):((a:Int) != (b:Int))=false:=by rw [h]; exact bne_self_eq_false _
theorem Z5y : ∀(n m:Nat),n < m→n≤1000000 → ∀(l l' : List Z6) (b:Bool),sm wE l≤n→l.map plE=l'.map plE→(b=true ∨ l=l')→(rec7 m).E5 l l' b=some true:=by
  intro n
  induction n with
  | zero =>
    intro m hm hn l l' b hl he hb
    obtain⟨m,rfl⟩ : ∃ k,m=k+1:=⟨m - 1,by omega⟩
    have h0:=M0 Q0a l
    have hlen:=Q4x he
    show S6 (rec7 m) l l' b=_
    unfold S6
    rw [c0 (lne hlen)]
    refine Q6a l.length (by omega) (fun k hk=>by omega) (by rw [c0 (dge _)]) rfl
  | succ n ih =>
    intro m hm hn l l' b hl he hb
    obtain⟨m,rfl⟩ : ∃ k,m=k+1:=⟨m - 1,by omega⟩
    have h0:=M0 Q0a l
    have hlen:=Q4x he
    show S6 (rec7 m) l l' b=_
    unfold S6
    rw [c0 (lne hlen)]
    refine Q6a l.length (by omega) (fun k hk => ?_) (by rw [c0 (dge _)]) rfl
    have hk' : k < l'.length:=by omega
    have hxy:=Q7k he hk hk'
    have hb' : b=true ∨ l[k]=l'[k]:=by
      rcases hb with h | h
      · exact .inl h
      · subst h; exact .inr rfl
    have hw:=I0 (w:=wE) (List.getElem_mem hk)
    rw [c1 (dlt hk)]
    dsimp only [jn]
    rw [N8 hk,N8 hk']
    simp only [Option.bind_some]
    generalize l[k]=x at hxy hb' hw
    generalize l'[k]=y at hxy hb'
    have hwx:=Z0d x
    have hkid:(rec7 m).E5 x.Kids y.Kids b=some true:=by
      refine ih m (by omega) (by omega) _ _ b (by omega) ?_ ?_
      · rw [Q2a x,Q2a y] at hxy
        exact(Z6.mk.inj hxy).2.2.2.2.2.2
      · rcases hb' with h | h
        · exact .inl h
        · rw [h]; exact .inr rfl
    rw [Q2a x,Q2a y] at hxy
    obtain⟨e1,_,e3,e4,e5,e6,_⟩:=Z6.mk.inj hxy
    rw [e1,e3,e4,e5,e6,hkid]
    rcases hb' with h | h
    · subst h
      simp
    · subst h
      cases b <;> simp
theorem Q9h {l l' : List Z6} {b:Bool} (hl:sm wE l≤1000000) (he:l.map plE=l'.map plE) (hb:b=true ∨ l=l'):E5 l l' b=some true:=Z5y 1000000 NN (by unfold NN; omega) (by omega) l l' b hl he hb
theorem Z0z {l l' : List J8} {b:Bool} (hl:sm wV l≤1000000) (he:l.map plV=l'.map plV) (hb:b=true ∨ l=l'):O4 l l' b=some true:=by
  have h0:=M0 Q2j l
  have hlen:=Q4x he
  unfold O4
  rw [c0 (lne hlen)]
  refine Q6a l.length (by omega) (fun k hk => ?_) (by rw [c0 (dge _)]) rfl
  have hk' : k < l'.length:=by omega
  have hxy:=Q7k he hk hk'
  have hb' : b=true ∨ l[k]=l'[k]:=by
    rcases hb with h | h
    · exact .inl h
    · subst h; exact .inr rfl
  have hw:=I0 (w:=wV) (List.getElem_mem hk)
  rw [c1 (dlt hk)]
  dsimp only [jn]
  rw [N8 hk,N8 hk']
  simp only [Option.bind_some]
  generalize l[k]=x at hxy hb' hw
  generalize l'[k]=y at hxy hb'
  have hwx:wV x=1+x.Type_.Stars.toNat+x.Dims.length+sm wE x.Init:=rfl
  have hkid:E5 x.Init y.Init b=some true:=by
    refine Q9h (by omega) (J8.mk.inj hxy).2.2.2.2.1 ?_
    rcases hb' with h | h
    · exact .inl h
    · rw [h]; exact .inr rfl
  obtain⟨_,e2,e3,e4,_,e6⟩:=J8.mk.inj hxy
  have hd : ∀ {A:Type} {K:Lp Int Bool→Option A},(V7 (fun(x4:Int)=>(bif decide (x4 < (List.length y.Dims:Int)) then ((idx y.Dims x4).bind fun u3=>(idx y.Dims x4).bind fun u4=>bif u3 != u4 then (some (Lp.ret false)) else (some (Lp.go (IntKind.wrap .i64 (x4+1))))) else (some (Lp.brk x4)):Option (Lp (Int) (Bool)))) NN (0:Int)).bind K=K (.brk (List.length y.Dims:Int)):=by
    intro A K
    rw [e4] at hwx
    refine Q6a y.Dims.length (by omega) (fun k hk => ?_) (by rw [c0 (dge _)]) rfl
    rw [c1 (dlt hk),N8 hk]
    simp only [Option.bind_some]
    rw [c0 (bne_self_eq_false _)]
  rw [e2,e3,e4,e6,hkid]
  rcases hb' with h | h
  · subst h
    simp [hd,Lp.thn]
  · subst h
    cases b <;> simp [hd,Lp.thn]
theorem Z5l : ∀(n m:Nat),n < m→n≤1000000 → ∀(l l' : List U5) (b:Bool),sm wS l≤n→l.map plS=l'.map plS→(b=true ∨ l=l')→(rec8 m).J9 l l' b=some true:=by
  intro n
  induction n with
  | zero =>
    intro m hm hn l l' b hl he hb
    obtain⟨m,rfl⟩ : ∃ k,m=k+1:=⟨m - 1,by omega⟩
    have h0:=M0 Q2k l
    have hlen:=Q4x he
    show S5 (rec8 m) l l' b=_
    unfold S5
    rw [c0 (lne hlen)]
    refine Q6a l.length (by omega) (fun k hk=>by omega) (by rw [c0 (dge _)]) rfl
  | succ n ih =>
    intro m hm hn l l' b hl he hb
    obtain⟨m,rfl⟩ : ∃ k,m=k+1:=⟨m - 1,by omega⟩
    have h0:=M0 Q2k l
    have hlen:=Q4x he
    show S5 (rec8 m) l l' b=_
    unfold S5
    rw [c0 (lne hlen)]
    refine Q6a l.length (by omega) (fun k hk => ?_) (by rw [c0 (dge _)]) rfl
    have hk' : k < l'.length:=by omega
    have hxy:=Q7k he hk hk'
    have hb' : b=true ∨ l[k]=l'[k]:=by
      rcases hb with h | h
      · exact .inl h
      · subst h; exact .inr rfl
    have hw:=I0 (w:=wS) (List.getElem_mem hk)
    rw [c1 (dlt hk)]
    dsimp only [jn]
    rw [N8 hk,N8 hk']
    simp only [Option.bind_some]
    generalize l[k]=x at hxy hb' hw
    generalize l'[k]=y at hxy hb'
    have hwx:=Z0c x
    rw [Q1z x,Q1z y] at hxy
    obtain⟨e1,_,e3,e4,e5,e6,e7,e8,e9⟩:=U5.mk.inj hxy
    have fb : ∀ {α : Type} {f:U5 → α},b=true ∨ f x=f y:=fun {α f} => hb'.imp_right fun h=>by rw [h]
    have hA:=Q9h (b:=b) (l:=x.A) (l' := y.A) (by omega) e3 fb
    have hB:=Q9h (b:=b) (l:=x.B) (l' := y.B) (by omega) e4 fb
    have hC:=Q9h (b:=b) (l:=x.C) (l' := y.C) (by omega) e5 fb
    have hV:=Z0z (b:=b) (l:=x.Var) (l' := y.Var) (by omega) e6 fb
    have hS1:=ih m (by omega) (by omega) x.Body y.Body b (by omega) e7 fb
    have hS2:=ih m (by omega) (by omega) x.Else y.Else b (by omega) e8 fb
    have hcl:=Q4x e9
    have hcs:=M0 Z3e x.Cases
    have hround : ∀ {K:Lp Int Bool→Option (Lp Int Bool)},(V7 (fun(x4:Int)=>(bif decide (x4 < (List.length x.Cases:Int)) then (jn (fun kk2=>(idx x.Cases x4).bind fun u3=>(idx y.Cases x4).bind fun u4=>kk2 u3 u4) (fun(x5:K7) (x6:K7)=>bif !(x5.Default == x6.Default) then (some (Lp.ret false)) else (bif !b then (bif !((x5.Pos.Line == x6.Pos.Line)&&(x5.Pos.Col == x6.Pos.Col)) then (some (Lp.ret false)) else (bif x5.Num != x6.Num then (some (Lp.ret false)) else (((rec8 m).J9 x5.Body x6.Body b).bind fun y7=>bif !y7 then (some (Lp.ret false)) else (some (Lp.go (IntKind.wrap .i64 (x4+1))))))) else (bif x5.Num != x6.Num then (some (Lp.ret false)) else (((rec8 m).J9 x5.Body x6.Body b).bind fun y8=>bif !y8 then (some (Lp.ret false)) else (some (Lp.go (IntKind.wrap .i64 (x4+1))))))))) else (some (Lp.brk x4)):Option (Lp (Int) (Bool)))) NN (0:Int)).bind K=K (.brk (List.length x.Cases:Int)):=by
      intro K
      refine Q6a x.Cases.length (by omega) (fun j hj => ?_) (by rw [c0 (dge _)]) rfl
      have hj' : j < y.Cases.length:=by omega
      have hcd:=Q7k e9 hj hj'
      have hbc:b=true ∨ x.Cases[j]=y.Cases[j]:=hb'.imp_right fun h=>by simp only [h]
      have hwc:=I0 (w:=wC) (List.getElem_mem hj)
      rw [c1 (dlt hj)]
      dsimp only [jn]
      rw [N8 hj,N8 hj']
      simp only [Option.bind_some]
      generalize x.Cases[j]=c at hcd hbc hwc
      generalize y.Cases[j]=d at hcd hbc
      have hwd:wC c=1+sm wS c.Body:=rfl
      obtain⟨_,f2,f3,f4⟩:=Z0b.mk.inj hcd
      have hS3:=ih m (by omega) (by omega) c.Body d.Body b (by omega) f4 (hbc.imp_right fun h=>by rw [h])
      rw [f2,f3,hS3]
      rcases hbc with h | h
      · subst h; simp
      · subst h; cases b <;> simp
    refine(c0 (by rw [e1]; exact bne_self_eq_false _)).trans ?_
    cases b with
    | true =>
      refine(c0 (by rfl)).trans ?_
      refine bnd hA ?_
      refine(c0 (by rfl)).trans ?_
      refine bnd hB ?_
      refine(c0 (by rfl)).trans ?_
      refine bnd hC ?_
      refine(c0 (by rfl)).trans ?_
      refine bnd hV ?_
      refine(c0 (by rfl)).trans ?_
      refine bnd hS1 ?_
      refine(c0 (by rfl)).trans ?_
      refine bnd hS2 ?_
      refine(c0 (by rfl)).trans ?_
      refine(c0 (lne hcl)).trans ?_
      exact hround.trans rfl
    | false =>
      obtain rfl:x=y:=hb'.resolve_left (by simp)
      refine(c1 (by rfl)).trans ?_
      refine(c0 (by simp)).trans ?_
      refine bnd hA ?_
      refine(c0 (by rfl)).trans ?_
      refine bnd hB ?_
      refine(c0 (by rfl)).trans ?_
      refine bnd hC ?_
      refine(c0 (by rfl)).trans ?_
      refine bnd hV ?_
      refine(c0 (by rfl)).trans ?_
      refine bnd hS1 ?_
      refine(c0 (by rfl)).trans ?_
      refine bnd hS2 ?_
      refine(c0 (by rfl)).trans ?_
      refine(c0 (lne hcl)).trans ?_
      exact hround.trans rfl
theorem stmts_eq {l l' : List U5} {b:Bool} (hl:sm wS l≤1000000) (he:l.map plS=l'.map plS) (hb:b=true ∨ l=l'):J9 l l' b=some true:=Z5l 1000000 NN (by unfold NN; omega) (by omega) l l' b hl he hb
theorem Z6w {p q:K4} {b:Bool} (hp:wP p≤1000000) (h:plP p=plP q) (hb:b=true ∨ p=q):Q2v p q b=some true:=by
  unfold wP at hp
  obtain⟨e1,e2,e3⟩:=K4.mk.inj h
  have h1:=Q4x e1
  have h3:=Q4x e3
  have l1:=M0 Z1g p.Structs
  have l3:=M0 Z1h p.Funcs
  unfold Q2v
  rw [c0 (lne h1),c0 (lne h3),Z0z (by omega) e2 (hb.imp_right fun h=>by rw [h]),Option.bind_some]
  refine(c0 rfl).trans ?_
  refine Q6a p.Structs.length (by omega) (fun k hk => ?_) (by rw [c0 (dge _)]) ?_
  · have hk' : k < q.Structs.length:=by omega
    have hxy:=Q7k e1 hk hk'
    have hb' : b=true ∨ p.Structs[k]=q.Structs[k]:=hb.imp_right fun h=>by simp only [h]
    have hw:=I0 (w:=wT) (List.getElem_mem hk)
    rw [c1 (dlt hk)]
    dsimp only [jn]
    rw [N8 hk,N8 hk']
    simp only [Option.bind_some]
    generalize p.Structs[k]=x at hxy hb' hw
    generalize q.Structs[k]=y at hxy hb'
    have hwx:wT x=1+sm wV x.Fields:=rfl
    obtain⟨_,f2,f3⟩:=F7.mk.inj hxy
    rw [f2,Z0z (b:=b) (by omega) f3 (hb'.imp_right fun h=>by rw [h])]
    rcases hb' with h | h
    · subst h; simp
    · subst h; cases b <;> simp
  dsimp only [Lp.thn]
  refine Q6a p.Funcs.length (by omega) (fun k hk => ?_) (by rw [c0 (dge _)]) rfl
  have hk' : k < q.Funcs.length:=by omega
  have hxy:=Q7k e3 hk hk'
  have hb' : b=true ∨ p.Funcs[k]=q.Funcs[k]:=hb.imp_right fun h=>by simp only [h]
  have hw:=I0 (w:=wF) (List.getElem_mem hk)
  rw [c1 (dlt hk)]
  dsimp only [jn]
  rw [N8 hk,N8 hk']
  simp only [Option.bind_some]
  generalize p.Funcs[k]=x at hxy hb' hw
  generalize q.Funcs[k]=y at hxy hb'
  have hwx:wF x=1+x.Ret.Stars.toNat+sm wV x.Params+sm wS x.Body:=rfl
  obtain⟨_,f2,f3,f4,f5⟩:=P4.mk.inj hxy
  rw [f2,f3,Z0z (b:=b) (by omega) f4 (hb'.imp_right fun h=>by rw [h]),stmts_eq (b:=b) (by omega) f5 (hb'.imp_right fun h=>by rw [h])]
  rcases hb' with h | h
  · subst h; simp
  · subst h; cases b <;> simp
theorem Q5w {α β : Type} (f : α → β) (l:List α) (i:Int):idx (l.map f) i=(idx l i).map f:=by
  unfold idx
  split
  · rw [List.getElem?_map]
  · rfl
theorem pK (x:Z6):(plE x).Kind=x.Kind:=by rw [Q2a]
theorem pO (x:Z6):(plE x).Op=x.Op:=by rw [Q2a]
theorem pN (x:Z6):(plE x).Name=x.Name:=by rw [Q2a]
theorem pM (x:Z6):(plE x).Num=x.Num:=by rw [Q2a]
theorem pT (x:Z6):(plE x).Type_=x.Type_:=by rw [Q2a]
theorem pS (x:Z6):(plE x).Kids=x.Kids.map plE:=by rw [Q2a]
structure PrE (G:Z2j):Prop where
  o : ∀ w x,G.V0 w (plE x)=G.V0 w x
  b : ∀ w x s,G.G2 w (plE x) s=G.G2 w x s
  e : ∀ w x,G.U8 w (plE x)=G.U8 w x
  l : ∀ w l,G.K2 w (l.map plE)=G.K2 w l
theorem prE : ∀ n,PrE (Q0w n)
  | 0=>⟨fun _ _=>rfl,fun _ _ _=>rfl,fun _ _=>rfl,fun _ _=>rfl⟩
  | n+1=>by
    have h:=prE n
    refine⟨fun w x => ?_,fun w x s => ?_,fun w x => ?_,fun w l => ?_⟩
    · show P5 (Q0w n) w (plE x)=P5 (Q0w n) w x
      unfold P5
      simp only [pK,h.e]
    · show P6 (Q0w n) w (plE x) s=P6 (Q0w n) w x s
      unfold P6
      simp only [pS,Q5w,Option.bind_map,Function.comp_def,h.o]
    · show C4 (Q0w n) w (plE x)=C4 (Q0w n) w x
      unfold C4
      simp only [pK,pO,pN,pM,pT,pS,Q5w,Option.bind_map,Function.comp_def,h.o,h.b,h.e,h.l]
    · show C3 (Q0w n) w (l.map plE)=C3 (Q0w n) w l
      unfold C3
      simp only [List.length_map,Q5w,Option.bind_map,Function.comp_def,h.e]
theorem prL (w:Q5) (l:List Z6):K2 w (l.map plE)=K2 w l:=(prE NN).l w l
theorem prV (w:Q5) (v:J8):U7 w (plV v)=U7 w v:=by
  unfold U7 plV
  simp only [List.length_map,prL]
theorem qK (x:U5):(plS x).Kind=x.Kind:=by rw [Q1z]
theorem qA (x:U5):(plS x).A=x.A.map plE:=by rw [Q1z]
theorem qB (x:U5):(plS x).B=x.B.map plE:=by rw [Q1z]
theorem qC (x:U5):(plS x).C=x.C.map plE:=by rw [Q1z]
theorem qV (x:U5):(plS x).Var=x.Var.map plV:=by rw [Q1z]
theorem qS (x:U5):(plS x).Body=x.Body.map plS:=by rw [Q1z]
theorem qE (x:U5):(plS x).Else=x.Else.map plS:=by rw [Q1z]
theorem qD (x:U5):(plS x).Cases=x.Cases.map plC:=by rw [Q1z]
theorem cD (c:K7):(plC c).Default=c.Default:=rfl
theorem cN (c:K7):(plC c).Num=c.Num:=rfl
theorem cS (c:K7):(plC c).Body=c.Body.map plS:=rfl
structure PrS (G:Rec4):Prop where
  c : ∀ w l,G.B5 w (l.map plC)=G.B5 w l
  s : ∀ w x,G.J2 w (plS x)=G.J2 w x
  b : ∀ w l,G.V4 w (l.map plS)=G.V4 w l
theorem prA (w:Q5) (s:List UInt8) (l:List Z6):D6 w s (l.map plE)=D6 w s l:=by
  unfold D6
  simp only [prL]
theorem prH (w:Q5) (x:U5):M9 w (plS x)=M9 w x:=by
  unfold M9
  simp only [qK,qA,prL]
theorem prS : ∀ n,PrS (Q3g n)
  | 0=>⟨fun _ _=>rfl,fun _ _=>rfl,fun _ _=>rfl⟩
  | n+1=>by
    have h:=prS n
    refine⟨fun w l => ?_,fun w x => ?_,fun w l => ?_⟩
    · show M3 (Q3g n) w (l.map plC)=M3 (Q3g n) w l
      unfold M3
      simp only [List.length_map,Q5w,Option.bind_map,Function.comp_def,cD,cN,cS,h.s]
    · show C2 (Q3g n) w (plS x)=C2 (Q3g n) w x
      unfold C2
      simp only [qK,qA,qB,qC,qV,qS,qE,qD,List.length_map,Q5w,Option.bind_map,Function.comp_def,prL,prV,prA,prH,h.c,h.b]
    · show M4 (Q3g n) w (l.map plS)=M4 (Q3g n) w l
      unfold M4
      simp only [List.length_map,Q5w,Option.bind_map,Function.comp_def,h.s]
theorem prB (w:Q5) (l:List U5):V4 w (l.map plS)=V4 w l:=(prS NN).b w l
theorem prP (p:K4):S4 (plP p)=S4 p:=by
  unfold S4 plP plT plF
  simp only [List.length_map,Q5w,Option.bind_map,Function.comp_def,prV,prB]
/-- Words that are written: so many, none too long. -/
structure Wd (w:Q5) (n:Nat):Prop where
  len:w.l.length≤n
  txt : ∀ s ∈ w.l,s.length≤70000
theorem Wd.mono {w:Q5} {a b:Nat} (h:Wd w a) (hab:a≤b):Wd w b:=⟨by have:=h.len; omega,h.txt⟩
theorem Z5p {w:Q5} {n:Nat} (h:Wd w n) (ws:List (List UInt8)) (hn:n+ws.length≤100000000) (ht : ∀ s ∈ ws,s.length≤70000):Z0 w ws=some ⟨w.l++ws⟩∧Wd ⟨w.l++ws⟩ (n+ws.length):=by
  have:=h.len
  refine⟨?_,?_,?_⟩
  · unfold Z0
    exact bnd (R1 (by omega)) rfl
  · show(w.l++ws).length≤_
    rw [List.length_append]; omega
  · intro s hs
    rcases List.mem_append.1 hs with hs | hs
    · exact h.txt s hs
    · exact ht s hs
/-- One word, two words. -/
theorem R3 {w:Q5} {n:Nat} (h:Wd w n) {s:List UInt8} (hs:s.length≤70000) (hn:n+1≤100000000) : ∃ w',Z0 w [s]=some w' ∧ Wd w' (n+1):=⟨_,Z5p h [s] hn (by simpa using hs)⟩
theorem put2 {w:Q5} {n:Nat} (h:Wd w n) {s t:List UInt8} (hs:s.length≤70000) (ht:t.length≤70000) (hn:n+2≤100000000) : ∃ w',Z0 w [s,t]=some w' ∧ Wd w' (n+2):=⟨_,Z5p h [s,t] hn (by simp [hs,ht])⟩
theorem Q1p {α : Type} {body:Int×Q5→Option (Lp (Int×Q5) Unit)} (l:List α) (kk : α → Nat) (hl:l.length≤100000000)
    (hs : ∀(k:Nat) (h:k < l.length) (w:Q5) (n:Nat),Wd w n→n+kk l[k]≤100000000 → ∃ w',body ((k:Int),w)=some (.go (IntKind.wrap .i64 ((k:Int)+1),w'))∧Wd w' (n+kk l[k]))
    (he : ∀ w,body ((l.length:Int),w)=some (.brk ((l.length:Int),w))) {w:Q5} {n:Nat} (hw:Wd w n) (hn:n+sm kk l≤100000000) :
    ∃ w',V7 body NN (0,w)=some (.brk ((l.length:Int),w'))∧Wd w' (n+sm kk l):=by
  have key : ∀(j k f:Nat) (w:Q5) (n:Nat),k+j=l.length→j < f→Wd w n→n+sm kk (l.drop k)≤100000000 → ∃ w',V7 body f ((k:Int),w)=some (.brk ((l.length:Int),w'))∧Wd w' (n+sm kk (l.drop k)):=by
    intro j
    induction j with
    | zero =>
      intro k f w n hk hf hw hn
      obtain rfl:k=l.length:=by omega
      obtain⟨f,rfl⟩ : ∃ g,f=g+1:=⟨f - 1,by omega⟩
      refine⟨w,?_,hw.mono (by omega)⟩
      unfold V7
      rw [he]
    | succ j ih =>
      intro k f w n hk hf hw hn
      obtain⟨f,rfl⟩ : ∃ g,f=g+1:=⟨f - 1,by omega⟩
      have hkl:k < l.length:=by omega
      rw [List.drop_eq_getElem_cons hkl,B3] at hn ⊢
      obtain⟨w1,e1,h1⟩:=hs k hkl w n hw (by omega)
      obtain⟨w2,e2,h2⟩:=ih (k+1) f w1 _ (by omega) (by omega) h1 (by omega)
      refine⟨w2,?_,h2.mono (by omega)⟩
      unfold V7
      rw [e1,w64 (by omega)]
      exact e2
  have:=key l.length 0 NN w n (by omega) (Q6c (by omega)) hw (by simpa using hn)
  simpa using this
theorem itoa_len (u:Nat) (h:u < 18446744073709551616):(Lib.itoa (u:Int)).length≤20:=by
  have e:Lib.itoa (u:Int)=Lib.decDigits u:=by unfold Lib.itoa; rw [if_neg (by omega)]; simp
  rw [e,Lib.decDigits_length]
  by_cases h1:1≤u
  · have:=Lib.numDigits_eq u h1 h
    split at this <;> omega
  · obtain rfl:u=0:=by omega
    rw [Lib.nDigits]
    simp
theorem w64m (n:Int):IntKind.wrap .u64 n=n % 18446744073709551616:=by simp [IntKind.wrap,IntKind.bits,IntKind.signed]
theorem Q9w {w:Q5} {n:Nat} (h:Wd w n) (z:Int) (hn:n+1≤100000000) : ∃ w',N5 w z=some w' ∧ Wd w' (n+1):=by
  unfold N5
  obtain⟨u,hu,hlt⟩ : ∃ u:Nat,IntKind.wrap .u64 z=(u:Int)∧u < 18446744073709551616:=by
    refine⟨(IntKind.wrap .u64 z).toNat,?_,?_⟩ <;> rw [w64m] <;> omega
  rw [hu]
  unfold Q0l
  rw [if_pos (by omega),Option.bind_some]
  obtain⟨w',e,h'⟩:=R3 h (s:=Lib.itoa (u:Int)) (by have:=itoa_len u hlt; omega) hn
  exact⟨w',bnd e rfl,h'⟩
/-- A type whose names are not too long. -/
def OkT (t:G5):Prop:=t.Word.length≤70000∧t.Name.length≤70000∧t.Stars≤1000000
theorem Z3g {w:Q5} {n:Nat} (h:Wd w n) (t:G5) (ht:OkT t) (hn:n+(2+t.Stars.toNat)≤100000000) : ∃ w',N3 w t=some w' ∧ Wd w' (n+(2+t.Stars.toNat)):=by
  obtain⟨h1,h2,h3⟩:=ht
  unfold N3
  obtain⟨w1,e1,k1⟩:=R3 h h1 (by omega)
  rw [e1,Option.bind_some]
  dsimp only [jn]
  have key : ∀ w2,Wd w2 (n+2) → ∃ w',((V7 (fun(x4,x5)=>(bif decide (x4 < t.Stars) then ((Z0 x5 ([([42]:List UInt8)]:List (List UInt8))).bind fun y3=>some (Lp.go (IntKind.wrap .i64 (x4+1),y3))) else (some (Lp.brk (x4,x5))):Option (Lp (Int×Q5) (Unit)))) NN ((0:Int),w2)).bind fun o=>o.thn (fun(x4,x5)=>some x5) (fun _=>none))=some w' ∧ Wd w' (n+(2+t.Stars.toNat)):=by
    intro w2 k2
    obtain⟨w3,e3,k3⟩:=Q1p (body:=fun(x4,x5)=>(bif decide (x4 < t.Stars) then ((Z0 x5 ([([42]:List UInt8)]:List (List UInt8))).bind fun y3=>some (Lp.go (IntKind.wrap .i64 (x4+1),y3))) else (some (Lp.brk (x4,x5))):Option (Lp (Int×Q5) (Unit)))) (List.replicate t.Stars.toNat ()) (fun _=>1) (by simp; omega)
      (fun k hk w n hw hn=>by
        simp only [List.length_replicate] at hk
        obtain⟨w',e,h'⟩:=R3 hw (s := [42]) (by simp) (by omega)
        refine⟨w',?_,h'⟩
        dsimp only
        rw [c1 (dt (by omega))]
        exact bnd e rfl)
      (fun w=>by
        dsimp only
        rw [c0 (df (by simp only [List.length_replicate]; omega))]) k2 (by simp [sm]; omega)
    refine⟨w3,bnd e3 rfl,k3.mono (by simp [sm]; omega)⟩
  by_cases hs:t.Word = [115,116,114,117,99,116]
  · rw [c1 (dt hs)]
    obtain⟨w2,e2,k2⟩:=R3 k1 h2 (by omega)
    rw [e2,Option.bind_some]
    exact key w2 k2
  · rw [c0 (df hs)]
    exact key w1 (k1.mono (by omega))
/-- How many parts a kind of expression has at least. -/
def Q2h (k:Int):Nat:=if k=3 ∨ k=9 ∨ k=10 ∨ k=11 then 1 else if k=4 ∨ k=5 ∨ k=8 then 2 else if k=6 then 3 else 0
inductive OkE:Z6→Prop
  | mk {x:Z6} (kids : ∀ k ∈ x.Kids,OkE k) (name:x.Name.length≤70000) (op:x.Op.length≤70000) (ty:OkT x.Type_) (ar:Q2h x.Kind≤x.Kids.length):OkE x
/-- Something writes at most so many words. -/
def Ws (f:Q5→Option Q5) (k:Nat):Prop := ∀ w a,Wd w a→a+k≤100000000 → ∃ w',f w=some w' ∧ Wd w' (a+k)
theorem Ws.at {f:Q5→Option Q5} {k:Nat} (h:Ws f k) {w:Q5} {a b:Nat} (hw:Wd w a) (hb:a+k≤b) (hB:a+k≤100000000) : ∃ w',f w=some w' ∧ Wd w' b:=by
  obtain⟨w',e,h'⟩:=h w a hw hB
  exact⟨w',e,h'.mono hb⟩
theorem Z3n {l:List Z6} (h:1≤l.length) : ∃ a r,l=a::r:=by
  match l,h with
  | a::r,_=>exact⟨a,r,rfl⟩
theorem Z6d {l:List Z6} (h:2≤l.length) : ∃ a b r,l=a::b::r:=by
  match l,h with
  | a::b::r,_=>exact⟨a,b,r,rfl⟩
theorem Z6x {l:List Z6} (h:3≤l.length) : ∃ a b c r,l=a::b::c::r:=by
  match l,h with
  | a::b::c::r,_=>exact⟨a,b,c,r,rfl⟩
theorem Z5s {m:Nat} {x:Z6} (h:Ws (fun w=>(Q0w m).U8 w x) (12 * wE x - 3)):Ws (fun w=>(Q0w (m+1)).V0 w x) (12 * wE x - 1):=by
  intro w a hw ha
  have hp:=Q0a x
  show ∃ w',P5 (Q0w m) w x=some w' ∧ _
  unfold P5
  dsimp only [jn]
  have key : ∀ b:Bool,∃ w',(bif b then (((Q0w m).U8 w x).bind fun y1=>some y1) else ((Z0 w ([([40]:List UInt8)]:List (List UInt8))).bind fun y2=>((Q0w m).U8 y2 x).bind fun y3=>(Z0 y3 ([([41]:List UInt8)]:List (List UInt8))).bind fun y4=>some y4))=some w' ∧ Wd w' (a+(12 * wE x - 1)):=by
    intro b
    cases b with
    | true =>
      obtain⟨w1,e1,k1⟩:=h.at hw (Nat.le_refl _) (by omega)
      exact⟨w1,bnd e1 rfl,k1.mono (by omega)⟩
    | false =>
      obtain⟨w1,e1,k1⟩:=R3 hw (s := [40]) (by simp) (by omega)
      obtain⟨w2,e2,k2⟩:=h.at k1 (Nat.le_refl _) (by omega)
      obtain⟨w3,e3,k3⟩:=R3 k2 (s := [41]) (by simp) (by omega)
      exact⟨w3,bnd e1 (bnd e2 (bnd e3 rfl)),k3.mono (by omega)⟩
  cases(x.Kind == 1)
  case true=>exact key true
  cases(x.Kind == 2)
  case true=>exact key true
  cases(x.Kind == 7)
  case true=>exact key true
  cases(x.Kind == 8)
  case true=>exact key true
  cases(x.Kind == 9)
  case true=>exact key true
  exact key (x.Kind == 12)
theorem Z6o {m:Nat} {l:List Z6} (hl:l.length≤1000000) (h : ∀ x ∈ l,Ws (fun w=>(Q0w m).U8 w x) (12 * wE x - 3)):Ws (fun w=>(Q0w (m+1)).K2 w l) (12 * sm wE l):=by
  intro w a hw ha
  have hsum:sm (fun x=>12 * wE x) l=12 * sm wE l:=by
    clear hl h ha
    induction l with
    | nil=>rfl
    | cons x l ih=>rw [B3,B3,ih]; omega
  show ∃ w',C3 (Q0w m) w l=some w' ∧ _
  unfold C3
  obtain⟨w1,e1,k1⟩:=Q1p (body:=fun(x2,x3)=>(bif decide (x2 < (List.length l:Int)) then ((idx l x2).bind fun u1=>jn (fun kk1=>bif decide (0 < x2) then ((Z0 x3 ([([44]:List UInt8)]:List (List UInt8))).bind fun y1=>kk1 y1) else (kk1 x3)) (fun(x5:Q5)=>((Q0w m).U8 x5 u1).bind fun y2=>some (Lp.go (IntKind.wrap .i64 (x2+1),y2)))) else (some (Lp.brk (x2,x3))):Option (Lp (Int×Q5) (Unit))))
    l (fun x=>12 * wE x) (by omega) (fun k hk w n hw hn=>by
      have hp:=Q0a l[k]
      dsimp only [jn]
      rw [c1 (dlt hk),N8 hk,Option.bind_some]
      have hx:=h _ (List.getElem_mem hk)
      by_cases h0:(0:Int) < (k:Int)
      · rw [c1 (dt h0)]
        obtain⟨w1,e1,k1⟩:=R3 hw (s := [44]) (by simp) (by omega)
        obtain⟨w2,e2,k2⟩:=hx.at k1 (Nat.le_refl _) (by omega)
        exact⟨w2,bnd e1 (bnd e2 rfl),k2.mono (by omega)⟩
      · rw [c0 (df h0)]
        obtain⟨w2,e2,k2⟩:=hx.at hw (Nat.le_refl _) (by omega)
        exact⟨w2,bnd e2 rfl,k2.mono (by omega)⟩)
    (fun w=>by dsimp only; rw [c0 (dge _)]) hw (by rw [hsum]; exact ha)
  rw [hsum] at k1
  exact⟨w1,bnd e1 rfl,k1⟩
theorem Z2f {m:Nat} {x y z:Z6} {r:List Z6} (hk:x.Kids=y::z::r) {s:List UInt8} (hs:s.length≤70000) (hy:Ws (fun w=>(Q0w (m+1)).V0 w y) (12 * wE y - 1)) (hz:Ws (fun w=>(Q0w (m+1)).V0 w z) (12 * wE z - 1)) :
    Ws (fun w=>(Q0w (m+2)).G2 w x s) (12 * wE y+12 * wE z - 1):=by
  intro w a hw ha
  have h1:=Q0a y
  have h2:=Q0a z
  show ∃ w',P6 (Q0w (m+1)) w x s=some w' ∧ _
  unfold P6
  rw [hk]
  obtain⟨w1,e1,k1⟩:=hy.at hw (Nat.le_refl _) (by omega)
  obtain⟨w2,e2,k2⟩:=R3 k1 hs (by omega)
  obtain⟨w3,e3,k3⟩:=hz.at k2 (Nat.le_refl _) (by omega)
  exact⟨w3,bnd (x:=y) rfl (bnd e1 (bnd e2 (bnd (x:=z) rfl (bnd e3 rfl)))),k3.mono (by omega)⟩
theorem Z6s : ∀(n:Nat),n≤1000000 → ∀ m,3 * n≤m → ∀ x,wE x≤n→OkE x→Ws (fun w=>(Q0w m).U8 w x) (12 * wE x - 3)
  | 0,_,m,_,x,hx,_=>by have:=Q0a x; omega
  | n+1,hn,m,hm,x,hx,ho=>by
    obtain⟨k,rfl⟩ : ∃ k,m=k+2+1:=⟨m - 3,by omega⟩
    have hw:=Z0d x
    obtain⟨kids,hname,hop,hty,har⟩:=ho
    have ih:=Z6s n (by omega)
    have ihk : ∀ j,3 * n≤j → ∀ y ∈ x.Kids,Ws (fun w=>(Q0w j).U8 w y) (12 * wE y - 3):=fun j hj y hy=>ih j hj y (by have:=I0 (w:=wE) hy; omega) (kids y hy)
    have iho : ∀ j,3 * n≤j → ∀ y ∈ x.Kids,Ws (fun w=>(Q0w (j+1)).V0 w y) (12 * wE y - 1):=fun j hj y hy=>Z5s (ihk j hj y hy)
    have hln:=M0 Q0a x.Kids
    intro w a hwd ha
    show ∃ w',C4 (Q0w (k+2)) w x=some w' ∧ _
    unfold C4
    by_cases k1:x.Kind=1
    · rw [c1 (by rw [k1]; rfl)]
      obtain⟨w1,e1,h1⟩:=Q9w hwd x.Num (by omega)
      exact⟨w1,bnd e1 rfl,h1.mono (by omega)⟩
    rw [c0 (by simpa using k1)]
    by_cases k2:x.Kind=2
    · rw [c1 (by rw [k2]; rfl)]
      obtain⟨w1,e1,h1⟩:=R3 hwd hname (by omega)
      exact⟨w1,bnd e1 rfl,h1.mono (by omega)⟩
    rw [c0 (by simpa using k2)]
    dsimp only [jn]
    by_cases k3:x.Kind=3 ∨ x.Kind=10
    · obtain⟨y,r,e⟩:=Z3n (l:=x.Kids) (by rcases k3 with k3 | k3 <;> rw [k3] at har <;> exact har)
      have hy:=iho (k+1) (by omega) y (by rw [e]; simp)
      rw [e,B3] at hw
      have key : ∃ w',((Z0 w ([x.Op]:List (List UInt8))).bind fun y3=>(idx x.Kids 0).bind fun u1=>((Q0w (k+2)).V0 y3 u1).bind fun y4=>some y4)=some w' ∧ Wd w' (a+(12 * wE x - 3)):=by
        rw [e]
        obtain⟨w1,e1,h1⟩:=R3 hwd hop (by omega)
        obtain⟨w2,e2,h2⟩:=hy.at h1 (Nat.le_refl _) (by omega)
        exact⟨w2,bnd e1 (bnd (x:=y) rfl (bnd e2 rfl)),h2.mono (by omega)⟩
      rcases k3 with k3 | k3
      · rw [c1 (by rw [k3]; rfl),c1 (by rw [k3]; rfl)]; exact key
      · rw [c0 (by rw [k3]; rfl),c1 (by rw [k3]; rfl)]; exact key
    rw [c0 (b:=x.Kind == 3) (by simp; exact fun h=>k3 (.inl h)),c0 (b:=x.Kind == 10) (by simp; exact fun h=>k3 (.inr h))]
    by_cases k4:x.Kind=4 ∨ x.Kind=5
    · obtain⟨y,z,r,e⟩:=Z6d (l:=x.Kids) (by rcases k4 with k4 | k4 <;> rw [k4] at har <;> exact har)
      have hb:=Z2f (m:=k) e hop (iho k (by omega) y (by rw [e]; simp)) (iho k (by omega) z (by rw [e]; simp))
      rw [e,B3,B3] at hw
      have key : ∃ w',(((Q0w (k+2)).G2 w x x.Op).bind fun y5=>some y5)=some w' ∧ Wd w' (a+(12 * wE x - 3)):=by
        obtain⟨w1,e1,h1⟩:=hb.at hwd (Nat.le_refl _) (by omega)
        exact⟨w1,bnd e1 rfl,h1.mono (by omega)⟩
      rcases k4 with k4 | k4
      · rw [c1 (by rw [k4]; rfl),c1 (by rw [k4]; rfl)]; exact key
      · rw [c0 (by rw [k4]; rfl),c1 (by rw [k4]; rfl)]; exact key
    rw [c0 (b:=x.Kind == 4) (by simp; exact fun h=>k4 (.inl h)),c0 (b:=x.Kind == 5) (by simp; exact fun h=>k4 (.inr h))]
    by_cases k6:x.Kind=6
    · rw [c1 (by rw [k6]; rfl)]
      obtain⟨y,z,v,r,e⟩:=Z6x (l:=x.Kids) (by rw [k6] at har; exact har)
      have hb:=Z2f (m:=k) e (s := [63]) (by simp) (iho k (by omega) y (by rw [e]; simp)) (iho k (by omega) z (by rw [e]; simp))
      have hv:=iho (k+1) (by omega) v (by rw [e]; simp)
      have hvp:=Q0a v
      rw [e,B3,B3,B3] at hw
      rw [e]
      obtain⟨w1,e1,h1⟩:=hb.at hwd (Nat.le_refl _) (by omega)
      obtain⟨w2,e2,h2⟩:=R3 h1 (s := [58]) (by simp) (by omega)
      obtain⟨w3,e3,h3⟩:=hv.at h2 (Nat.le_refl _) (by omega)
      exact⟨w3,bnd e1 (bnd e2 (bnd (x:=v) rfl (bnd e3 rfl))),h3.mono (by omega)⟩
    rw [c0 (by simpa using k6)]
    by_cases k7:x.Kind=7
    · rw [c1 (by rw [k7]; rfl)]
      have hl:=Z6o (m:=k+1) (l:=x.Kids) (by omega) (ihk (k+1) (by omega))
      obtain⟨w1,e1,h1⟩:=put2 hwd hname (t := [40]) (by simp) (by omega)
      obtain⟨w2,e2,h2⟩:=hl.at h1 (Nat.le_refl _) (by omega)
      obtain⟨w3,e3,h3⟩:=R3 h2 (s := [41]) (by simp) (by omega)
      exact⟨w3,bnd e1 (bnd e2 (bnd e3 rfl)),h3.mono (by omega)⟩
    rw [c0 (by simpa using k7)]
    by_cases k8:x.Kind=8
    · rw [c1 (by rw [k8]; rfl)]
      obtain⟨y,z,r,e⟩:=Z6d (l:=x.Kids) (by rw [k8] at har; exact har)
      have hy:=iho (k+1) (by omega) y (by rw [e]; simp)
      have hz:=ihk (k+2) (by omega) z (by rw [e]; simp)
      have hyp:=Q0a y
      have hzp:=Q0a z
      rw [e,B3,B3] at hw
      rw [e]
      obtain⟨w1,e1,h1⟩:=hy.at hwd (Nat.le_refl _) (by omega)
      obtain⟨w2,e2,h2⟩:=R3 h1 (s := [91]) (by simp) (by omega)
      obtain⟨w3,e3,h3⟩:=hz.at h2 (Nat.le_refl _) (by omega)
      obtain⟨w4,e4,h4⟩:=R3 h3 (s := [93]) (by simp) (by omega)
      exact⟨w4,bnd (x:=y) rfl (bnd e1 (bnd e2 (bnd (x:=z) rfl (bnd e3 (bnd e4 rfl))))),h4.mono (by omega)⟩
    rw [c0 (by simpa using k8)]
    by_cases k9:x.Kind=9
    · rw [c1 (by rw [k9]; rfl)]
      obtain⟨y,r,e⟩:=Z3n (l:=x.Kids) (by rw [k9] at har; exact har)
      have hy:=iho (k+1) (by omega) y (by rw [e]; simp)
      have hyp:=Q0a y
      rw [e,B3] at hw
      rw [e]
      obtain⟨w1,e1,h1⟩:=hy.at hwd (Nat.le_refl _) (by omega)
      obtain⟨w2,e2,h2⟩:=put2 h1 hop hname (by omega)
      exact⟨w2,bnd (x:=y) rfl (bnd e1 (bnd e2 rfl)),h2.mono (by omega)⟩
    rw [c0 (by simpa using k9)]
    by_cases k11:x.Kind=11
    · rw [c1 (by rw [k11]; rfl)]
      obtain⟨y,r,e⟩:=Z3n (l:=x.Kids) (by rw [k11] at har; exact har)
      have hy:=iho (k+1) (by omega) y (by rw [e]; simp)
      have hyp:=Q0a y
      rw [e,B3] at hw
      rw [e]
      obtain⟨w1,e1,h1⟩:=hy.at hwd (Nat.le_refl _) (by omega)
      obtain⟨w2,e2,h2⟩:=R3 h1 hop (by omega)
      exact⟨w2,bnd (x:=y) rfl (bnd e1 (bnd e2 rfl)),h2.mono (by omega)⟩
    rw [c0 (by simpa using k11)]
    by_cases k12:x.Kind=12
    · rw [c1 (by rw [k12]; rfl)]
      obtain⟨w1,e1,h1⟩:=put2 hwd (s := [115,105,122,101,111,102]) (t := [40]) (by simp) (by simp) (by omega)
      obtain⟨w2,e2,h2⟩:=Z3g h1 x.Type_ hty (by omega)
      obtain⟨w3,e3,h3⟩:=R3 h2 (s := [41]) (by simp) (by omega)
      exact⟨w3,bnd e1 (bnd e2 (bnd e3 rfl)),h3.mono (by omega)⟩
    rw [c0 (by simpa using k12)]
    exact⟨w,rfl,hwd.mono (by omega)⟩
theorem Q5l {l:List Z6} (hl:sm wE l≤1000000) (h : ∀ x ∈ l,OkE x):Ws (fun w=>K2 w l) (12 * sm wE l):=by
  obtain⟨k,hk⟩ : ∃ k,NN=k+1:=⟨NN - 1,by unfold NN; omega⟩
  have hln:=M0 Q0a l
  unfold K2
  rw [hk]
  exact Z6o (by omega) fun x hx=>Z6s 1000000 (by omega) k (by unfold NN at hk; omega) x (by have:=I0 (w:=wE) hx; omega) (h x hx)
theorem Ws.mono {f:Q5→Option Q5} {k j:Nat} (h:Ws f k) (hkj:k≤j):Ws f j:=fun w a hw ha=>h.at hw (by omega) (by omega)
theorem Z1m {α : Type} (k:Nat) : ∀ l:List α,sm (fun _=>k) l=k * l.length
  | []=>rfl
  | x::l=>by rw [B3,Z1m k l,List.length_cons,Nat.mul_add]; omega
theorem Q2p {α : Type} (c:Nat) (w : α → Nat) : ∀ l:List α,sm (fun x=>c * w x) l=c * sm w l
  | []=>rfl
  | x::l=>by rw [B3,B3,Q2p c w l,Nat.mul_add]
structure OkV (v:J8):Prop where
  name:v.Name.length≤70000
  ty:OkT v.Type_
  init : ∀ x ∈ v.Init,OkE x
theorem Q4t {v:J8} (hv:OkV v) (hw1:wV v≤1000000):Ws (fun w=>U7 w v) (12 * wV v):=by
  intro w a hw ha
  have hwv:wV v=1+v.Type_.Stars.toNat+v.Dims.length+sm wE v.Init:=rfl
  show ∃ w',U7 w v=some w' ∧ _
  unfold U7
  obtain⟨w1,e1,k1⟩:=Z3g hw v.Type_ hv.ty (by omega)
  obtain⟨w2,e2,k2⟩:=R3 k1 hv.name (by omega)
  obtain⟨w3,e3,k3⟩:=Q1p (body:=fun(x2,x3)=>(bif decide (x2 < (List.length v.Dims:Int)) then ((idx v.Dims x2).bind fun u1=>(Z0 x3 ([([91]:List UInt8)]:List (List UInt8))).bind fun y3=>(N5 y3 u1).bind fun y4=>(Z0 y4 ([([93]:List UInt8)]:List (List UInt8))).bind fun y5=>some (Lp.go (IntKind.wrap .i64 (x2+1),y5))) else (some (Lp.brk (x2,x3))):Option (Lp (Int×Q5) (Unit))))
    v.Dims (fun _=>3) (by omega) (fun k hk w n hw hn=>by
      dsimp only
      rw [c1 (dlt hk),N8 hk,Option.bind_some]
      obtain⟨w1,e1,k1⟩:=R3 hw (s := [91]) (by simp) (by omega)
      obtain⟨w2,e2,k2⟩:=Q9w k1 v.Dims[k] (by omega)
      obtain⟨w3,e3,k3⟩:=R3 k2 (s := [93]) (by simp) (by omega)
      exact⟨w3,bnd e1 (bnd e2 (bnd e3 rfl)),k3⟩)
    (fun w=>by dsimp only; rw [c0 (dge _)]) k2 (by rw [Z1m]; omega)
  rw [Z1m] at k3
  rw [e1,Option.bind_some,e2,Option.bind_some,e3,Option.bind_some]
  dsimp only [Lp.thn]
  by_cases hi:v.Init = []
  · rw [c1 (by rw [hi]; rfl)]
    exact⟨w3,rfl,k3.mono (by omega)⟩
  rw [c0 (beq_eq_false_iff_ne.2 (by have:=List.length_pos_iff.2 hi; omega))]
  have hl:=Q5l (l:=v.Init) (by omega) hv.init
  obtain⟨w4,e4,k4⟩:=R3 k3 (s := [61]) (by simp) (by omega)
  rw [e4,Option.bind_some]
  dsimp only [jn]
  cases v.Brace with
  | false =>
    obtain⟨w5,e5,k5⟩:=hl.at k4 (Nat.le_refl _) (by omega)
    exact⟨w5,bnd e5 rfl,k5.mono (by omega)⟩
  | true =>
    obtain⟨w5,e5,k5⟩:=R3 k4 (s := [123]) (by simp) (by omega)
    obtain⟨w6,e6,k6⟩:=hl.at k5 (Nat.le_refl _) (by omega)
    obtain⟨w7,e7,k7⟩:=R3 k6 (s := [125]) (by simp) (by omega)
    exact⟨w7,bnd e5 (bnd e6 (bnd e7 rfl)),k7.mono (by omega)⟩
inductive OkS:U5→Prop
  | mk {x:U5} (a : ∀ y ∈ x.A,OkE y) (b : ∀ y ∈ x.B,OkE y) (c : ∀ y ∈ x.C,OkE y) (v : ∀ y ∈ x.Var,OkV y) (s : ∀ y ∈ x.Body,OkS y) (e : ∀ y ∈ x.Else,OkS y) (d : ∀ c ∈ x.Cases,∀ y ∈ c.Body,OkS y):OkS x
theorem Q9n {s:List UInt8} (hs:s.length≤70000) {l:List Z6} (hl:sm wE l≤1000000) (h : ∀ x ∈ l,OkE x):Ws (fun w=>D6 w s l) (12 * sm wE l+3):=by
  intro w a hw ha
  show ∃ w',D6 w s l=some w' ∧ _
  unfold D6
  obtain⟨w1,e1,k1⟩:=put2 hw hs (t := [40]) (by simp) (by omega)
  obtain⟨w2,e2,k2⟩:=(Q5l hl h).at k1 (Nat.le_refl _) (by omega)
  obtain⟨w3,e3,k3⟩:=R3 k2 (s := [41]) (by simp) (by omega)
  exact⟨w3,bnd e1 (bnd e2 (bnd e3 rfl)),k3.mono (by omega)⟩
/-- A list of statements that are written one after the other. -/
theorem Z2d {m:Nat} {l:List U5} (hl:l.length≤1000000) (h : ∀ x ∈ l,Ws (fun w=>(Q3g m).J2 w x) (12 * wS x)):Ws (fun w=>(Q3g (m+1)).V4 w l) (12 * sm wS l+2):=by
  intro w a hw ha
  have hsum:sm (fun x=>12 * wS x) l=12 * sm wS l:=by
    clear hl h ha
    induction l with
    | nil=>rfl
    | cons x l ih=>rw [B3,B3,ih]; omega
  show ∃ w',M4 (Q3g m) w l=some w' ∧ _
  unfold M4
  obtain⟨w1,e1,k1⟩:=R3 hw (s := [123]) (by simp) (by omega)
  obtain⟨w2,e2,k2⟩:=Q1p (body:=fun(x2,x3)=>(bif decide (x2 < (List.length l:Int)) then ((idx l x2).bind fun u1=>((Q3g m).J2 x3 u1).bind fun y2=>some (Lp.go (IntKind.wrap .i64 (x2+1),y2))) else (some (Lp.brk (x2,x3))):Option (Lp (Int×Q5) (Unit))))
    l (fun x=>12 * wS x) (by omega) (fun k hk w n hw hn=>by
      dsimp only
      rw [c1 (dlt hk),N8 hk,Option.bind_some]
      obtain⟨w2,e2,k2⟩:=(h _ (List.getElem_mem hk)).at hw (Nat.le_refl _) hn
      exact⟨w2,bnd e2 rfl,k2⟩)
    (fun w=>by dsimp only; rw [c0 (dge _)]) k1 (by rw [hsum]; omega)
  rw [hsum] at k2
  obtain⟨w3,e3,k3⟩:=R3 k2 (s := [125]) (by simp) (by omega)
  exact⟨w3,bnd e1 (bnd e2 (bnd e3 rfl)),k3.mono (by omega)⟩
theorem cases_ok {m:Nat} {l:List K7} (hl:sm wC l≤1000000) (h : ∀ c ∈ l,∀ x ∈ c.Body,Ws (fun w=>(Q3g m).J2 w x) (12 * wS x)):Ws (fun w=>(Q3g (m+1)).B5 w l) (12 * sm wC l+2):=by
  intro w a hw ha
  have hln:=M0 Z3e l
  have hsum:sm (fun x=>12 * wC x) l=12 * sm wC l:=by
    clear hl h ha hln
    induction l with
    | nil=>rfl
    | cons x l ih=>rw [B3,B3,ih]; omega
  show ∃ w',M3 (Q3g m) w l=some w' ∧ _
  unfold M3
  obtain⟨w1,e1,k1⟩:=R3 hw (s := [123]) (by simp) (by omega)
  obtain⟨w2,e2,k2⟩:=Q1p (body:=fun(x2,x3)=>(bif decide (x2 < (List.length l:Int)) then ((idx l x2).bind fun u1=>jn (fun kk1=>bif u1.Default then ((Z0 x3 ([([100,101,102,97,117,108,116]:List UInt8)]:List (List UInt8))).bind fun y2=>kk1 y2) else ((Z0 x3 ([([99,97,115,101]:List UInt8)]:List (List UInt8))).bind fun y3=>(N5 y3 u1.Num).bind fun y4=>kk1 y4)) (fun(x5:Q5)=>(Z0 x5 ([([58]:List UInt8)]:List (List UInt8))).bind fun y5=>(V7 (fun(x7,x8)=>(bif decide (x7 < (List.length u1.Body:Int)) then ((idx u1.Body x7).bind fun u2=>((Q3g m).J2 x8 u2).bind fun y6=>some (Lp.go (IntKind.wrap .i64 (x7+1),y6))) else (some (Lp.brk (x7,x8))):Option (Lp (Int×Q5) (Unit)))) NN ((0:Int),y5)).bind fun o=>o.thn (fun(x7,x8)=>some (Lp.go (IntKind.wrap .i64 (x2+1),x8))) (fun _=>none))) else (some (Lp.brk (x2,x3))):Option (Lp (Int×Q5) (Unit))))
    l (fun x=>12 * wC x) (by omega) (fun k hk w n hw hn=>by
      have hm:=I0 (w:=wC) (List.getElem_mem hk)
      have hwc:wC l[k]=1+sm wS l[k].Body:=rfl
      have hb:=M0 Q2k l[k].Body
      have hx:=h _ (List.getElem_mem hk)
      dsimp only [jn]
      rw [c1 (dlt hk),N8 hk,Option.bind_some]
      generalize l[k]=c at hm hwc hb hx hn
      have hsc:sm (fun x=>12 * wS x) c.Body=12 * sm wS c.Body:=by
        clear hm hwc hb hx hn
        induction c.Body with
        | nil=>rfl
        | cons x l ih=>rw [B3,B3,ih]; omega
      have key : ∀ w1,Wd w1 (n+2) → ∃ w',((Z0 w1 ([([58]:List UInt8)]:List (List UInt8))).bind fun y5=>(V7 (fun(x7,x8)=>(bif decide (x7 < (List.length c.Body:Int)) then ((idx c.Body x7).bind fun u2=>((Q3g m).J2 x8 u2).bind fun y6=>some (Lp.go (IntKind.wrap .i64 (x7+1),y6))) else (some (Lp.brk (x7,x8))):Option (Lp (Int×Q5) (Unit)))) NN ((0:Int),y5)).bind fun o=>o.thn (fun(x7,x8)=>some (Lp.go (S:=Int×Q5) (R:=Unit) (IntKind.wrap .i64 ((k:Int)+1),x8))) (fun _=>none))=some (.go (IntKind.wrap .i64 ((k:Int)+1),w'))∧Wd w' (n+12 * wC c):=by
        intro w1 k1
        obtain⟨w2,e2,k2⟩:=R3 k1 (s := [58]) (by simp) (by omega)
        obtain⟨w3,e3,k3⟩:=Q1p (body:=fun(x7,x8)=>(bif decide (x7 < (List.length c.Body:Int)) then ((idx c.Body x7).bind fun u2=>((Q3g m).J2 x8 u2).bind fun y6=>some (Lp.go (IntKind.wrap .i64 (x7+1),y6))) else (some (Lp.brk (x7,x8))):Option (Lp (Int×Q5) (Unit))))
          c.Body (fun x=>12 * wS x) (by omega) (fun k hk w n hw hn=>by
            dsimp only
            rw [c1 (dlt hk),N8 hk,Option.bind_some]
            obtain⟨w2,e2,k2⟩:=(hx _ (List.getElem_mem hk)).at hw (Nat.le_refl _) hn
            exact⟨w2,bnd e2 rfl,k2⟩)
          (fun w=>by dsimp only; rw [c0 (dge _)]) k2 (by rw [hsc]; omega)
        rw [hsc] at k3
        exact⟨w3,bnd e2 (bnd e3 rfl),k3.mono (by omega)⟩
      cases c.Default with
      | true =>
        obtain⟨w1,e1,k1⟩:=R3 hw (s := [100,101,102,97,117,108,116]) (by simp) (by omega)
        obtain⟨w2,e2,k2⟩:=key w1 (k1.mono (by omega))
        exact⟨w2,bnd e1 e2,k2⟩
      | false =>
        obtain⟨w1,e1,k1⟩:=R3 hw (s := [99,97,115,101]) (by simp) (by omega)
        obtain⟨w2,e2,k2⟩:=Q9w k1 c.Num (by omega)
        obtain⟨w3,e3,k3⟩:=key w2 (k2.mono (by omega))
        exact⟨w3,bnd e1 (bnd e2 e3),k3⟩)
    (fun w=>by dsimp only; rw [c0 (dge _)]) k1 (by rw [hsum]; omega)
  rw [hsum] at k2
  obtain⟨w3,e3,k3⟩:=R3 k2 (s := [125]) (by simp) (by omega)
  exact⟨w3,bnd e1 (bnd e2 (bnd e3 rfl)),k3.mono (by omega)⟩
theorem short_ok {x:U5} (hA:sm wE x.A≤1000000) (h : ∀ y ∈ x.A,OkE y):Ws (fun w=>M9 w x) (12 * sm wE x.A+2):=by
  intro w a hw ha
  show ∃ w',M9 w x=some w' ∧ _
  unfold M9
  dsimp only [jn]
  have key : ∀ w1,Wd w1 (a+1) → ∃ w',((K2 w1 x.A).bind fun y4=>(Z0 y4 ([([59]:List UInt8)]:List (List UInt8))).bind fun y5=>some y5)=some w' ∧ Wd w' (a+(12 * sm wE x.A+2)):=by
    intro w1 k1
    obtain⟨w2,e2,k2⟩:=(Q5l hA h).at k1 (Nat.le_refl _) (by omega)
    obtain⟨w3,e3,k3⟩:=R3 k2 (s := [59]) (by simp) (by omega)
    exact⟨w3,bnd e2 (bnd e3 rfl),k3.mono (by omega)⟩
  cases(x.Kind == 8)
  case true =>
    obtain⟨w1,e1,k1⟩:=R3 hw (s := [114,101,116,117,114,110]) (by simp) (by omega)
    obtain⟨w2,e2,k2⟩:=key w1 k1
    exact⟨w2,bnd e1 e2,k2⟩
  cases(x.Kind == 9)
  case true =>
    obtain⟨w1,e1,k1⟩:=R3 hw (s := [98,114,101,97,107]) (by simp) (by omega)
    obtain⟨w2,e2,k2⟩:=key w1 k1
    exact⟨w2,bnd e1 e2,k2⟩
  cases(x.Kind == 10)
  case true =>
    obtain⟨w1,e1,k1⟩:=R3 hw (s := [99,111,110,116,105,110,117,101]) (by simp) (by omega)
    obtain⟨w2,e2,k2⟩:=key w1 k1
    exact⟨w2,bnd e1 e2,k2⟩
  exact key w (hw.mono (by omega))
theorem Z6f : ∀(n:Nat),n≤1000000 → ∀ m,2 * n≤m → ∀ x,wS x≤n→OkS x→Ws (fun w=>(Q3g m).J2 w x) (12 * wS x)
  | 0,_,m,_,x,hx,_=>by have:=Q2k x; omega
  | n+1,hn,m,hm,x,hx,ho=>by
    obtain⟨k,rfl⟩ : ∃ k,m=k+1+1:=⟨m - 2,by omega⟩
    have hw:=Z0c x
    obtain⟨oa,ob,oc,ov,os,oe,od⟩:=ho
    have ih:=Z6f n (by omega) k (by omega)
    have hlS:=M0 Q2k x.Body
    have hlE:=M0 Q2k x.Else
    have hlV:=M0 Q2j x.Var
    have hS:=Z2d (m:=k) (l:=x.Body) (by omega) fun y hy=>ih y (by have:=I0 (w:=wS) hy; omega) (os y hy)
    have hE:=Z2d (m:=k) (l:=x.Else) (by omega) fun y hy=>ih y (by have:=I0 (w:=wS) hy; omega) (oe y hy)
    have hC:=cases_ok (m:=k) (l:=x.Cases) (by omega) fun c hc y hy=>ih y (by
      have h1:=I0 (w:=wC) hc
      have h2:=I0 (w:=wS) hy
      have h3:wC c=1+sm wS c.Body:=rfl
      omega) (od c hc y hy)
    have hA:=Q5l (l:=x.A) (by omega) oa
    intro w a hwd ha
    show ∃ w',C2 (Q3g (k+1)) w x=some w' ∧ _
    unfold C2
    by_cases k2:x.Kind=2
    · rw [c1 (by rw [k2]; rfl)]
      obtain⟨w1,e1,k1⟩:=Q1p (body:=fun(x2,x3)=>(bif decide (x2 < (List.length x.Var:Int)) then ((idx x.Var x2).bind fun u1=>(U7 x3 u1).bind fun y1=>some (Lp.go (IntKind.wrap .i64 (x2+1),y1))) else (some (Lp.brk (x2,x3))):Option (Lp (Int×Q5) (Unit))))
        x.Var (fun v=>12 * wV v) (by omega) (fun k hk w n hw hn=>by
          have hm:=I0 (w:=wV) (List.getElem_mem hk)
          dsimp only
          rw [c1 (dlt hk),N8 hk,Option.bind_some]
          obtain⟨w2,e2,k2⟩:=(Q4t (ov _ (List.getElem_mem hk)) (by omega)).at hw (Nat.le_refl _) hn
          exact⟨w2,bnd e2 rfl,k2⟩)
        (fun w=>by dsimp only; rw [c0 (dge _)]) hwd (by rw [Q2p]; omega)
      rw [Q2p] at k1
      obtain⟨w2,e2,k2⟩:=R3 k1 (s := [59]) (by simp) (by omega)
      exact⟨w2,bnd e1 (bnd e2 rfl),k2.mono (by omega)⟩
    rw [c0 (by simpa using k2)]
    by_cases k3:x.Kind=3
    · rw [c1 (by rw [k3]; rfl)]
      obtain⟨w1,e1,h1⟩:=(Q9n (s := [105,102]) (by simp) (l:=x.A) (by omega) oa).at hwd (Nat.le_refl _) (by omega)
      obtain⟨w2,e2,h2⟩:=hS.at h1 (Nat.le_refl _) (by omega)
      rw [e1,Option.bind_some,e2,Option.bind_some]
      by_cases he:(0:Int) < (List.length x.Else:Int)
      · rw [c1 (dt he)]
        obtain⟨w3,e3,h3⟩:=R3 h2 (s := [101,108,115,101]) (by simp) (by omega)
        obtain⟨w4,e4,h4⟩:=hE.at h3 (Nat.le_refl _) (by omega)
        exact⟨w4,bnd e3 (bnd e4 rfl),h4.mono (by omega)⟩
      · rw [c0 (df he)]
        exact⟨w2,rfl,h2.mono (by omega)⟩
    rw [c0 (by simpa using k3)]
    by_cases k4:x.Kind=4
    · rw [c1 (by rw [k4]; rfl)]
      obtain⟨w1,e1,h1⟩:=(Q9n (s := [119,104,105,108,101]) (by simp) (l:=x.A) (by omega) oa).at hwd (Nat.le_refl _) (by omega)
      obtain⟨w2,e2,h2⟩:=hS.at h1 (Nat.le_refl _) (by omega)
      exact⟨w2,bnd e1 (bnd e2 rfl),h2.mono (by omega)⟩
    rw [c0 (by simpa using k4)]
    by_cases k5:x.Kind=5
    · rw [c1 (by rw [k5]; rfl)]
      obtain⟨w1,e1,h1⟩:=R3 hwd (s := [100,111]) (by simp) (by omega)
      obtain⟨w2,e2,h2⟩:=hS.at h1 (Nat.le_refl _) (by omega)
      obtain⟨w3,e3,h3⟩:=(Q9n (s := [119,104,105,108,101]) (by simp) (l:=x.A) (by omega) oa).at h2 (Nat.le_refl _) (by omega)
      obtain⟨w4,e4,h4⟩:=R3 h3 (s := [59]) (by simp) (by omega)
      exact⟨w4,bnd e1 (bnd e2 (bnd e3 (bnd e4 rfl))),h4.mono (by omega)⟩
    rw [c0 (by simpa using k5)]
    by_cases k6:x.Kind=6
    · rw [c1 (by rw [k6]; rfl)]
      obtain⟨w1,e1,h1⟩:=put2 hwd (s := [102,111,114]) (t := [40]) (by simp) (by simp) (by omega)
      obtain⟨w2,e2,h2⟩:=hA.at h1 (Nat.le_refl _) (by omega)
      obtain⟨w3,e3,h3⟩:=R3 h2 (s := [59]) (by simp) (by omega)
      obtain⟨w4,e4,h4⟩:=(Q5l (l:=x.B) (by omega) ob).at h3 (Nat.le_refl _) (by omega)
      obtain⟨w5,e5,h5⟩:=R3 h4 (s := [59]) (by simp) (by omega)
      obtain⟨w6,e6,h6⟩:=(Q5l (l:=x.C) (by omega) oc).at h5 (Nat.le_refl _) (by omega)
      obtain⟨w7,e7,h7⟩:=R3 h6 (s := [41]) (by simp) (by omega)
      obtain⟨w8,e8,h8⟩:=hS.at h7 (Nat.le_refl _) (by omega)
      exact⟨w8,bnd e1 (bnd e2 (bnd e3 (bnd e4 (bnd e5 (bnd e6 (bnd e7 (bnd e8 rfl))))))),h8.mono (by omega)⟩
    rw [c0 (by simpa using k6)]
    by_cases k7:x.Kind=7
    · rw [c1 (by rw [k7]; rfl)]
      obtain⟨w1,e1,h1⟩:=(Q9n (s := [115,119,105,116,99,104]) (by simp) (l:=x.A) (by omega) oa).at hwd (Nat.le_refl _) (by omega)
      obtain⟨w2,e2,h2⟩:=hC.at h1 (Nat.le_refl _) (by omega)
      exact⟨w2,bnd e1 (bnd e2 rfl),h2.mono (by omega)⟩
    rw [c0 (by simpa using k7)]
    by_cases k11:x.Kind=11
    · rw [c1 (by rw [k11]; rfl)]
      obtain⟨w1,e1,h1⟩:=hS.at hwd (Nat.le_refl _) (by omega)
      exact⟨w1,bnd e1 rfl,h1.mono (by omega)⟩
    rw [c0 (by simpa using k11)]
    obtain⟨w1,e1,h1⟩:=(short_ok (x:=x) (by omega) oa).at hwd (Nat.le_refl _) (by omega)
    exact⟨w1,bnd e1 rfl,h1.mono (by omega)⟩
theorem Z7s {l:List U5} (hl:sm wS l≤1000000) (h : ∀ x ∈ l,OkS x):Ws (fun w=>V4 w l) (12 * sm wS l+2):=by
  obtain⟨k,hk⟩ : ∃ k,NN=k+1:=⟨NN - 1,by unfold NN; omega⟩
  have hln:=M0 Q2k l
  unfold V4
  rw [hk]
  exact Z2d (by omega) fun x hx=>Z6f 1000000 (by omega) k (by unfold NN at hk; omega) x (by have:=I0 (w:=wS) hx; omega) (h x hx)
structure OkF (f:P4):Prop where
  name:f.Name.length≤70000
  ty:OkT f.Ret
  ps : ∀ v ∈ f.Params,OkV v
  body : ∀ x ∈ f.Body,OkS x
structure OkP (p:K4):Prop where
  s : ∀ s ∈ p.Structs,s.Name.length≤70000 ∧ ∀ v ∈ s.Fields,OkV v
  g : ∀ v ∈ p.Globals,OkV v
  f : ∀ f ∈ p.Funcs,OkF f
theorem join_len (s:List UInt8) : ∀ l:List (List UInt8),(∀ x ∈ l,x.length≤70000)→(Go.Lib.join l s).length≤l.length * (70000+s.length):=by
  have tail : ∀ l:List (List UInt8),(∀ x ∈ l,x.length≤70000)→(Go.Lib.joinTail s l).length≤l.length * (70000+s.length):=by
    intro l
    induction l with
    | nil=>intro _; simp [Go.Lib.joinTail]
    | cons x l ih =>
      intro h
      have h1:=h x (by simp)
      have h2:=ih fun y hy=>h y (by simp [hy])
      rw [show Go.Lib.joinTail s (x::l)=(s++x)++Go.Lib.joinTail s l from rfl]
      simp only [List.length_append,List.length_cons,Nat.add_mul]
      omega
  intro l h
  cases l with
  | nil=>simp [Go.Lib.join]
  | cons x l =>
    have h1:=h x (by simp)
    have h2:=tail l fun y hy=>h y (by simp [hy])
    rw [Go.Lib.join_cons]
    simp only [List.length_append,List.length_cons,Nat.add_mul]
    omega
theorem exs {α β : Type} {m:Option α} {x : α} {f : α → Option β} (h:m=some x) (k : ∃ t,f x=some t) : ∃ t,m.bind f=some t:=by subst h; exact k
theorem Print_ok {p:K4} (hp:wP p≤5000) (h:OkP p) : ∃ t,S4 p=some t:=by
  have hwp:wP p=sm wT p.Structs+sm wV p.Globals+sm wF p.Funcs:=rfl
  have l1:=M0 Z1g p.Structs
  have l2:=M0 Q2j p.Globals
  have l3:=M0 Z1h p.Funcs
  unfold S4
  obtain⟨w1,e1,k1⟩:=Q1p (body:=(fun(x2,x3)=>(bif decide (x2 < (List.length p.Structs:Int)) then ((idx p.Structs x2).bind fun u1=>(Z0 x3 ([([115,116,114,117,99,116]:List UInt8),u1.Name,([123]:List UInt8)]:List (List UInt8))).bind fun y1=>(V7 (fun(x5,x6)=>(bif decide (x5 < (List.length u1.Fields:Int)) then ((idx u1.Fields x5).bind fun u2=>(U7 x6 u2).bind fun y2=>(Z0 y2 ([([59]:List UInt8)]:List (List UInt8))).bind fun y3=>some (Lp.go (IntKind.wrap .i64 (x5+1),y3))) else (some (Lp.brk (x5,x6))):Option (Lp (Int×Q5) (Unit)))) NN ((0:Int),y1)).bind fun o=>o.thn (fun(x5,x6)=>(Z0 x6 ([([125]:List UInt8),([59]:List UInt8)]:List (List UInt8))).bind fun y4=>some (Lp.go (IntKind.wrap .i64 (x2+1),y4))) (fun _=>none)) else (some (Lp.brk (x2,x3))):Option (Lp (Int×Q5) (Unit)))))
    p.Structs (fun s=>14 * wT s) (by omega) (fun k hk w n hw hn=>by
      have hm:=I0 (w:=wT) (List.getElem_mem hk)
      have hs:=h.s _ (List.getElem_mem hk)
      dsimp only
      rw [c1 (dlt hk),N8 hk,Option.bind_some]
      generalize p.Structs[k]=s at hm hs hn
      have hwt:wT s=1+sm wV s.Fields:=rfl
      have lf:=M0 Q2j s.Fields
      obtain⟨e1,k1⟩:=Z5p hw [[115,116,114,117,99,116],s.Name,[123]] (by simp; omega) (by simp [hs.1])
      rw [e1,Option.bind_some]
      obtain⟨w2,e2,k2⟩:=Q1p (body:=(fun(x5,x6)=>(bif decide (x5 < (List.length s.Fields:Int)) then ((idx s.Fields x5).bind fun u2=>(U7 x6 u2).bind fun y2=>(Z0 y2 ([([59]:List UInt8)]:List (List UInt8))).bind fun y3=>some (Lp.go (IntKind.wrap .i64 (x5+1),y3))) else (some (Lp.brk (x5,x6))):Option (Lp (Int×Q5) (Unit)))))
        s.Fields (fun v=>13 * wV v) (by omega) (fun k hk w n hw hn=>by
          have hm:=I0 (w:=wV) (List.getElem_mem hk)
          have hp:=Q2j s.Fields[k]
          dsimp only
          rw [c1 (dlt hk),N8 hk,Option.bind_some]
          obtain⟨w2,e2,k2⟩:=(Q4t (hs.2 _ (List.getElem_mem hk)) (by omega)).at hw (Nat.le_refl _) (by omega)
          obtain⟨w3,e3,k3⟩:=R3 k2 (s := [59]) (by simp) (by omega)
          exact⟨w3,bnd e2 (bnd e3 rfl),k3.mono (by omega)⟩)
        (fun w=>by dsimp only; rw [c0 (dge _)]) k1 (by rw [Q2p]; simp; omega)
      rw [Q2p] at k2
      obtain⟨w3,e3,k3⟩:=put2 k2 (s := [125]) (t := [59]) (by simp) (by simp) (by simp; omega)
      exact⟨w3,bnd e2 (bnd e3 rfl),k3.mono (by simp; omega)⟩)
    (fun w=>by dsimp only; rw [c0 (dge _)]) (w:=⟨[]⟩) (n:=0) ⟨Nat.le_refl _,fun s hs=>nomatch hs⟩ (by rw [Q2p]; omega)
  rw [Q2p] at k1
  refine exs e1 ?_
  show ∃ t,Option.bind (V7 _ NN ((0:Int),w1)) _=some t
  obtain⟨w2,e2,k2⟩:=Q1p (body:=(fun(x8,x9)=>(bif decide (x8 < (List.length p.Globals:Int)) then ((idx p.Globals x8).bind fun u3=>(U7 x9 u3).bind fun y5=>(Z0 y5 ([([59]:List UInt8)]:List (List UInt8))).bind fun y6=>some (Lp.go (IntKind.wrap .i64 (x8+1),y6))) else (some (Lp.brk (x8,x9))):Option (Lp (Int×Q5) (Unit)))))
    p.Globals (fun v=>13 * wV v) (by omega) (fun k hk w n hw hn=>by
      have hm:=I0 (w:=wV) (List.getElem_mem hk)
      have hp:=Q2j p.Globals[k]
      dsimp only
      rw [c1 (dlt hk),N8 hk,Option.bind_some]
      obtain⟨w2,e2,k2⟩:=(Q4t (h.g _ (List.getElem_mem hk)) (by omega)).at hw (Nat.le_refl _) (by omega)
      obtain⟨w3,e3,k3⟩:=R3 k2 (s := [59]) (by simp) (by omega)
      exact⟨w3,bnd e2 (bnd e3 rfl),k3.mono (by omega)⟩)
    (fun w=>by dsimp only; rw [c0 (dge _)]) k1 (by rw [Q2p]; omega)
  rw [Q2p] at k2
  refine exs e2 ?_
  show ∃ t,Option.bind (V7 _ NN ((0:Int),w2)) _=some t
  obtain⟨w3,e3,k3⟩:=Q1p (body:=(fun(x11,x12)=>(bif decide (x11 < (List.length p.Funcs:Int)) then ((idx p.Funcs x11).bind fun u4=>(N3 x12 u4.Ret).bind fun y7=>(Z0 y7 ([u4.Name,([40]:List UInt8)]:List (List UInt8))).bind fun y8=>(V7 (fun(x14,x15)=>(bif decide (x14 < (List.length u4.Params:Int)) then ((idx u4.Params x14).bind fun u5=>jn (fun kk1=>bif decide (0 < x14) then ((Z0 x15 ([([44]:List UInt8)]:List (List UInt8))).bind fun y9=>kk1 y9) else (kk1 x15)) (fun(x17:Q5)=>(U7 x17 u5).bind fun y10=>some (Lp.go (IntKind.wrap .i64 (x14+1),y10)))) else (some (Lp.brk (x14,x15))):Option (Lp (Int×Q5) (Unit)))) NN ((0:Int),y8)).bind fun o=>o.thn (fun(x14,x15)=>(Z0 x15 ([([41]:List UInt8)]:List (List UInt8))).bind fun y11=>(V4 y11 u4.Body).bind fun y12=>some (Lp.go (IntKind.wrap .i64 (x11+1),y12))) (fun _=>none)) else (some (Lp.brk (x11,x12))):Option (Lp (Int×Q5) (Unit)))))
    p.Funcs (fun f=>14 * wF f) (by omega) (fun k hk w n hw hn=>by
      have hm:=I0 (w:=wF) (List.getElem_mem hk)
      have hs:=h.f _ (List.getElem_mem hk)
      dsimp only
      rw [c1 (dlt hk),N8 hk,Option.bind_some]
      generalize p.Funcs[k]=f at hm hs hn
      have hwt:wF f=1+f.Ret.Stars.toNat+sm wV f.Params+sm wS f.Body:=rfl
      have lf:=M0 Q2j f.Params
      obtain⟨w1,e1,k1⟩:=Z3g hw f.Ret hs.ty (by omega)
      obtain⟨w2,e2,k2⟩:=put2 k1 hs.name (t := [40]) (by simp) (by omega)
      rw [e1,Option.bind_some,e2,Option.bind_some]
      obtain⟨w3,e3,k3⟩:=Q1p (body:=(fun(x14,x15)=>(bif decide (x14 < (List.length f.Params:Int)) then ((idx f.Params x14).bind fun u5=>jn (fun kk1=>bif decide (0 < x14) then ((Z0 x15 ([([44]:List UInt8)]:List (List UInt8))).bind fun y9=>kk1 y9) else (kk1 x15)) (fun(x17:Q5)=>(U7 x17 u5).bind fun y10=>some (Lp.go (IntKind.wrap .i64 (x14+1),y10)))) else (some (Lp.brk (x14,x15))):Option (Lp (Int×Q5) (Unit)))))
        f.Params (fun v=>13 * wV v) (by omega) (fun k hk w n hw hn=>by
          have hm:=I0 (w:=wV) (List.getElem_mem hk)
          have hp:=Q2j f.Params[k]
          have hv:=Q4t (hs.ps _ (List.getElem_mem hk)) (by omega)
          dsimp only [jn]
          rw [c1 (dlt hk),N8 hk,Option.bind_some]
          by_cases h0:(0:Int) < (k:Int)
          · rw [c1 (dt h0)]
            obtain⟨w1,e1,k1⟩:=R3 hw (s := [44]) (by simp) (by omega)
            obtain⟨w2,e2,k2⟩:=hv.at k1 (Nat.le_refl _) (by omega)
            exact⟨w2,bnd e1 (bnd e2 rfl),k2.mono (by omega)⟩
          · rw [c0 (df h0)]
            obtain⟨w2,e2,k2⟩:=hv.at hw (Nat.le_refl _) (by omega)
            exact⟨w2,bnd e2 rfl,k2.mono (by omega)⟩)
        (fun w=>by dsimp only; rw [c0 (dge _)]) k2 (by rw [Q2p]; omega)
      rw [Q2p] at k3
      obtain⟨w4,e4,k4⟩:=R3 k3 (s := [41]) (by simp) (by omega)
      obtain⟨w5,e5,k5⟩:=(Z7s (l:=f.Body) (by omega) hs.body).at k4 (Nat.le_refl _) (by omega)
      exact⟨w5,bnd e3 (bnd e4 (bnd e5 rfl)),k5.mono (by omega)⟩)
    (fun w=>by dsimp only; rw [c0 (dge _)]) k2 (by rw [Q2p]; omega)
  rw [Q2p] at k3
  refine exs e3 ?_
  have hj:=join_len [32] w3.l k3.txt
  have hlen:=k3.len
  have hb:w3.l.length * (70000+([32]:List UInt8).length)≤70000 * 70001:=Nat.mul_le_mul (by omega) (by simp)
  have hjn:strings_Join w3.l [32]=some (Go.Lib.join w3.l [32]):=by
    unfold strings_Join
    rw [if_pos ⟨by omega,by omega⟩]
  exact⟨_,bnd hjn rfl⟩
end Go.Proofs.YtbolaohekbmndaaGreatDoor
