/- Plain laws: no program is in sight here. -/
import Derived.Test.YtfffghclkmbopaaGreatKM
import Derived.Test.YtfffghclkmbopaaGreatKLoop
import Derived.Test.YtfffghclkmbopaaGreatKPure
import Derived.Lib.IndexBytes
set_option linter.unusedVariables false
namespace Go.Proofs.YtfffghclkmbopaaGreat
theorem bnd {α β : Type} {m:Option α} {x : α} {f : α → Option β} {X:Option β} (h:m=some x) (k:f x=X):m.bind f=X:=by subst h; exact k
theorem exb {α β : Type} {m:Option α} {x : α} {f : α → Option β} {p : β → Prop} (h:m=some x) (k : ∃ y,f x=some y∧p y) : ∃ y,m.bind f=some y∧p y:=by subst h; exact k
def letB (n:Int):Bool:=(decide (97≤n)&&decide (n≤122)) || (decide (65≤n)&&decide (n≤90)) || n == 95
def digB (n:Int):Bool:=decide (48≤n)&&decide (n≤57)
def Q1w (c:UInt8):Bool:=letB (c.toNat:Int) || digB (c.toNat:Int)
theorem Y6n (n:Int):Z1k n=some (letB n):=by
  unfold Z1k letB;cases decide (97≤n) <;> cases decide (n≤122) <;> cases decide (65≤n) <;> cases decide (n≤90) <;> rfl
theorem Y5e (n:Int):Z1l n=some (digB n):=by
  unfold Z1l digB;cases decide (48≤n) <;> rfl
theorem more_eq (c:UInt8):Z8y (c.toNat:Int)=some (Q1w c):=by
  unfold Z8y Q1w;rw [Y6n,Option.bind_some];cases letB (c.toNat:Int) with
  | true=>rfl
  | false=>rw [cond_false,Y5e]; rfl
def sp (p:UInt8→Bool):List UInt8→Nat
  | []=>0
  | x::l=>if p x then sp p l+1 else 0
theorem Y1p (p:UInt8→Bool) : ∀ l,sp p l≤l.length
  | []=>Nat.le_refl _
  | x::l=>by
    have:=Y1p p l
    unfold sp
    split
    · simp; omega
    · omega
theorem X0i (p:UInt8→Bool) : ∀(l:List UInt8) (k:Nat) (h:k < sp p l),p (l[k]'(Nat.lt_of_lt_of_le h (Y1p p l)))=true
  | [],k,h=>by simp [sp] at h
  | x::l,0,h=>by
    unfold sp at h
    split at h
    · assumption
    · omega
  | x::l,k+1,h=>by
    have h' := h
    unfold sp at h'
    split at h'
    · simpa using X0i p l k (by omega)
    · omega
theorem X1d (p:UInt8→Bool) : ∀(l:List UInt8) (h:sp p l < l.length),p l[sp p l]=false
  | [],h=>by simp at h
  | x::l,h=>by
    by_cases hx:p x=true
    · have e:sp p (x::l)=sp p l+1:=by show (if p x then sp p l+1 else 0)=_; rw [if_pos hx]
      have h2:sp p l < l.length:=by rw [e] at h; simp at h; omega
      have:=X1d p l h2
      simp only [e,List.getElem_cons_succ]
      exact this
    · have e:sp p (x::l)=0:=by show (if p x then sp p l+1 else 0)=_; rw [if_neg hx]
      simp only [e,List.getElem_cons_zero]
      simpa using hx
theorem X1e (p:UInt8→Bool) (l:List UInt8) (hl:l.length < 4611686018427387904) {body:Int→Option (Lp Int Unit)} {A:Type} {K:Lp Int Unit→Option A} {X:Option A}
    (h1 : ∀ k (h:k < l.length),body (k:Int)=some (bif p l[k] then .go (IntKind.wrap .i64 ((k:Int)+1)) else .brk (k:Int))) (h2:body (l.length:Int)=some (.brk (l.length:Int)))
    (hX:K (.brk ((sp p l:Nat):Int))=X):(loopM body NN 0).bind K=X:=by
  have hle:=Y1p p l;refine run_bind (fun k=>(k:Int)) (sp p l) (.brk ((sp p l:Nat):Int)) rfl (by omega) (fun k hk => ?_) ?_ trivial hX
  · rw [h1 k (by omega),X0i p l k hk,cond_true,w64 (by omega)]
    congr 2
  · by_cases h:sp p l < l.length
    · rw [h1 _ h,X1d p l h,cond_false]
    · rw [show sp p l=l.length by omega];exact h2
theorem Y4i (l:List UInt8) (hl:l.length < 4611686018427387904):Q9n l=some ((sp Q1w l:Nat):Int):=by
  unfold Q9n;refine X1e Q1w l hl (fun k hk => ?_) (by rw [c0 (dge _)]) rfl;rw [c1 (dlt hk),B6 hk,Option.bind_some,more_eq,Option.bind_some];cases Q1w l[k] <;> rfl
def words:List (List UInt8) := [([98,114,101,97,107]:List UInt8),([99,97,115,101]:List UInt8),([99,104,97,114]:List UInt8),([99,111,110,116,105,110,117,101]:List UInt8),([100,101,102,97,117,108,116]:List UInt8),([100,111]:List UInt8),([101,108,115,101]:List UInt8),([102,111,114]:List UInt8),([105,102]:List UInt8),([105,110]:List UInt8),([105,110,116]:List UInt8),([111,117,116]:List UInt8),([114,101,116,117,114,110]:List UInt8),([115,105,122,101,111,102]:List UInt8),([115,116,114,117,99,116]:List UInt8),([115,119,105,116,99,104]:List UInt8),([118,111,105,100]:List UInt8),([119,104,105,108,101]:List UInt8)]
def wordB (p:List UInt8):Bool:=words.any fun w=>decide (p=w)
theorem wd1 (b:Bool) (X:Option Bool):(bif b then (bif b then some true else some false) else X)=bif b then some true else X:=by cases b <;> rfl
theorem wd3 (b:Bool):(bif b then some true else some false)=some b:=by cases b <;> rfl
theorem wd4 (b x:Bool):(bif b then some b else some x)=some (b || x):=by cases b <;> rfl
theorem X1s (p:List UInt8):Z4a p=some (wordB p):=by
  unfold Z4a wordB words
  simp only [jn,wd3,wd4,List.any_cons,List.any_nil,Bool.or_false]
theorem Y1n {b:List UInt8} {n:Nat} (h:n≤b.length):sub b (n:Int) (b.length:Int)=some (b.drop n):=by
  unfold sub;rw [if_pos (by omega)]
  simp
theorem Z5h {b:List UInt8} {n:Nat} (h:n≤b.length):sub b 0 (n:Int)=some (b.take n):=by
  unfold sub;rw [if_pos (by omega)]
  simp
theorem Y9h (s p:List UInt8):P7 s p=some (decide (p <+: s)):=by
  unfold P7 Q3u
  by_cases h:p.length≤s.length
  · rw [c1 (dt (by omega)),Z5h h,Option.bind_some,Option.bind_some]
    congr 1
    refine decide_eq_decide.2 ⟨fun e=>List.prefix_iff_eq_take.2 e.symm,fun e=>(List.prefix_iff_eq_take.1 e).symm⟩
  · rw [c0 (df (by omega)),df (fun e=>h e.length_le)]
    rfl
def blB (c:UInt8):Bool:=(c.toNat:Int) == 32 || (c.toNat:Int) == 9 || (c.toNat:Int) == 10 || (c.toNat:Int) == 13
theorem X2u (c:UInt8):Z2c (c.toNat:Int)=some (blB c):=by
  unfold Z2c blB;cases((c.toNat:Int) == 32) <;> cases ((c.toNat:Int) == 9) <;> cases ((c.toNat:Int) == 10) <;> rfl
theorem span_eq (l:List UInt8) (hl:l.length < 4611686018427387904):Z8w l=some ((sp blB l:Nat):Int):=by
  unfold Z8w;refine X1e blB l hl (fun k hk => ?_) (by rw [c0 (dge _)]) rfl;rw [c1 (dlt hk),B6 hk,Option.bind_some,X2u,Option.bind_some];cases blB l[k] <;> rfl
def blS (s:List UInt8):Int :=
  if [47,47] <+: s then (if 0≤Go.Lib.index s [10] then Go.Lib.index s [10] else s.length)
  else if [47,42] <+: s then (if Go.Lib.index (s.drop 2) [42,47] < 0 then -1 else Go.Lib.index (s.drop 2) [42,47]+4) else ((sp blB s:Nat):Int)
theorem Y9g : ∀(s sub:List UInt8),sub ≠ []→0≤Go.Lib.index s sub→Go.Lib.index s sub+sub.length≤s.length
  | [],sub,hn,h=>by
    unfold Go.Lib.index at h
    rw [if_neg (by simpa using hn)] at h
    omega
  | b::l,sub,hn,h=>by
    unfold Go.Lib.index at h ⊢
    by_cases h1:sub.isPrefixOf (b::l)=true
    · rw [if_pos h1]
      have:=(List.isPrefixOf_iff_prefix.1 h1).length_le
      omega
    · rw [if_neg h1] at h ⊢
      by_cases h2:(Go.Lib.index l sub == -1)=true
      · rw [if_pos h2] at h; omega
      · rw [if_neg h2] at h ⊢
        have hge:=Go.Lib.index_ge l sub
        have hne:Go.Lib.index l sub ≠ -1:=by simpa using h2
        have:=Y9g l sub hn (by omega)
        simp
        omega
theorem Y5n (s:List UInt8) (hl:s.length≤100000):Z3i s=some (blS s)∧blS s≤s.length:=by
  have hi:=Go.Lib.index_le s [10];have hsp:=Y1p blB s;unfold Z3i blS;rw [Y9h,Option.bind_some]
  by_cases h1:([47,47]:List UInt8) <+: s
  · rw [dt h1,cond_true,if_pos h1];unfold strings_Index;rw [if_pos (by omega),Option.bind_some]
    by_cases h2:0≤Go.Lib.index s [10]
    · rw [c1 (dt h2),if_pos h2]; exact⟨rfl,hi⟩
    · rw [c0 (df h2),if_neg h2]; exact⟨rfl,by omega⟩
  · rw [df h1,cond_false,if_neg h1,Y9h,Option.bind_some]
    by_cases h2:([47,42]:List UInt8) <+: s
    · have hl2:=h2.length_le;have hi2:=Go.Lib.index_le (s.drop 2) [42,47];have hd:(s.drop 2).length=s.length - 2:=by simp
      simp at hl2
      rw [dt h2,cond_true,if_pos h2,show sub s 2 (s.length:Int)=some (s.drop 2) from Y1n hl2,Option.bind_some];unfold strings_Index;rw [if_pos (by simp; omega),Option.bind_some]
      by_cases h3:Go.Lib.index (s.drop 2) [42,47] < 0
      · rw [c1 (dt h3),if_pos h3]; exact⟨rfl,by omega⟩
      · rw [c0 (df h3),if_neg h3,w64 (by omega)];refine⟨rfl,?_⟩
        -- the instance lies within
        have:=Y9g (s.drop 2) [42,47] (by decide) (by omega)
        simp at this
        omega
    · rw [df h2,cond_false,if_neg h2,span_eq s (by omega),Option.bind_some];exact⟨rfl,by omega⟩
def Y1x:Pos:=⟨0,0⟩
def tokZ:V0:=⟨0,[],0,Y1x⟩
def Sepr (r:List UInt8):Prop := ∀ c,r.head? = some c→blB c=true
theorem sp_all (p:UInt8→Bool) : ∀(l r:List UInt8),(∀ x ∈ l,p x=true)→(∀ c,r.head? = some c→p c=false)→sp p (l++r)=l.length
  | [],[],_,_=>rfl
  | [],c::r,_,h=>by
    show sp p (c::r)=0
    unfold sp
    rw [if_neg (by simp [h c rfl])]
  | x::l,r,h1,h2=>by
    show sp p (x::(l++r))=l.length+1
    unfold sp
    rw [if_pos (h1 x (by simp)),sp_all p l r (fun y hy=>h1 y (by simp [hy])) h2]
theorem Y2y (p:UInt8→Bool) (l:List UInt8) : ∀ x ∈ l.take (sp p l),p x=true:=by
  intro x hx;obtain⟨k,hk,rfl⟩:=List.getElem_of_mem hx;have hle:=Y1p p l;have hk2:k < sp p l:=by simp at hk; omega
  rw [List.getElem_take];exact X0i p l k hk2
theorem Y5m {c:UInt8} (h:blB c=true):Q1w c=false:=by
  have : ∀ n:_root_.Fin 256,blB (UInt8.ofNat n.val)=true→Q1w (UInt8.ofNat n.val)=false:=by decide +kernel
  have h2:=this ⟨c.toNat,c.toNat_lt⟩
  simp only [UInt8.ofNat_toNat] at h2
  exact h2 h
theorem Z8v {c:UInt8} (h:Q1w c=true):c ≠ 10:=by
  rintro rfl
  revert h
  decide
theorem Y2z {l r:List UInt8} (h : ∀ x ∈ l,Q1w x=true) (hr:Sepr r):sp Q1w (l++r)=l.length:=sp_all _ l r h fun c hc=>Y5m (hr c hc)
structure Tok (t:V0) (s:List UInt8):Prop where
  pre:t.Text <+: s
  ne:t.Text ≠ []
  pos:t.Pos=Y1x
  nl : ∀ x ∈ t.Text,x ≠ 10
  again : ∀ r,Sepr r→(t.Text++r).length≤100000→Q4j (t.Text++r)=some (t,0)
  nu:0≤t.Num∧t.Num < 4294967296
theorem Y8m (n:Int) : ∃ w,Q7c n=some w:=by
  unfold Q7c;rw [Y5e,Option.bind_some];cases digB n <;> cases decide (97≤n) <;> cases decide (n≤102) <;> cases decide (65≤n) <;> cases decide (n≤70) <;> exact⟨_,rfl⟩
def U32 (n:Int):Prop:=0≤n∧n < 4294967296
theorem Y0r (n:Int):U32 (IntKind.wrap .u32 n):=by
  unfold U32
  simp only [IntKind.wrap,IntKind.signed,IntKind.bits]
  simp
  omega
theorem Z6c:U32 0:=⟨by decide,by decide⟩
def numK (u1:List UInt8) (x1:List UInt8) (x2:Int):Option (V0×Int):=bif decide (x1=([]:List UInt8)) then (some ((⟨0,([]:List UInt8),0,(⟨0,0⟩:Pos)⟩:V0),(3:Int))) else ((S0 (List.length x1)).bind fun _=>(loopM (fun(x3,x4,x5)=>(bif decide (x5 < (List.length (A0 x1):Int)) then (jn (fun kk2=>(idx (A0 x1) x5).bind fun u4=>(Q7c u4).bind fun y4=>bif decide (x2≤y4) then (some (Lp.ret ((⟨0,([]:List UInt8),0,(⟨0,0⟩:Pos)⟩:V0),(3:Int)))) else ((Q7c u4).bind fun y5=>bif decide (4294967295 < (IntKind.wrap .u64 ((IntKind.wrap .u64 (x3 * x2))+y5))) then (kk2 (4294967295:Int) true) else (kk2 (IntKind.wrap .u64 ((IntKind.wrap .u64 (x3 * x2))+y5)) x4))) (fun(x6:Int) (x7:Bool)=>some (Lp.go (x6,x7,IntKind.wrap .i64 (x5+1))))) else (some (Lp.brk (x3,x4,x5))):Option (Lp (Int×Bool×Int) (V0×Int)))) NN (0,false,0)).bind fun o=>o.thn (fun(x3,x4,x5)=>bif x4 then (some ((⟨0,([]:List UInt8),0,(⟨0,0⟩:Pos)⟩:V0),(7:Int))) else (some ((⟨3,u1,IntKind.wrap .u32 x3,(⟨0,0⟩:Pos)⟩:V0),(0:Int)))) (fun r=>some r))
def numT (u1:List UInt8):Option (V0×Int):=jn (fun kk1=>(P7 u1 ([48,120]:List UInt8)).bind fun y2=>bif y2 then ((sub u1 2 (List.length u1:Int)).bind fun u3=>kk1 u3 (16:Int)) else ((P7 u1 ([48,88]:List UInt8)).bind fun y3=>bif y3 then ((sub u1 2 (List.length u1:Int)).bind fun u2=>kk1 u2 (16:Int)) else (kk1 u1 (10:Int)))) (numK u1)
theorem Y6m (s:List UInt8) (hl:s.length≤100000):Z1j s=numT (s.take (sp Q1w s)):=by
  unfold Z1j;refine bnd (Y4i s (by omega)) ?_;refine bnd (Z5h (Y1p _ _)) rfl
theorem Y0v (u x:List UInt8) (b:Int) (hl:x.length≤100000) : ∃ y,numK u x b=some y∧(y.2=0→y.1.Text=u∧y.1.Pos=Y1x∧U32 y.1.Num):=by
  unfold numK
  by_cases hx:x = []
  · rw [c1 (dt hx)]; exact⟨_,rfl,fun h=>by cases h⟩
  rw [c0 (df hx),P4 (by omega),Option.bind_some];have hsl:(A0 x).length=x.length:=by simp [A0]
  obtain⟨o,ho,hp⟩:=Q3b (R:=V0×Int) (body:=fun(x3,x4,x5)=>(bif decide (x5 < (List.length (A0 x):Int)) then (jn (fun kk2=>(idx (A0 x) x5).bind fun u4=>(Q7c u4).bind fun y4=>bif decide (b≤y4) then (some (Lp.ret ((⟨0,([]:List UInt8),0,(⟨0,0⟩:Pos)⟩:V0),(3:Int)))) else ((Q7c u4).bind fun y5=>bif decide (4294967295 < (IntKind.wrap .u64 ((IntKind.wrap .u64 (x3 * b))+y5))) then (kk2 (4294967295:Int) true) else (kk2 (IntKind.wrap .u64 ((IntKind.wrap .u64 (x3 * b))+y5)) x4))) (fun(x6:Int) (x7:Bool)=>some (Lp.go (x6,x7,IntKind.wrap .i64 (x5+1))))) else (some (Lp.brk (x3,x4,x5))):Option (Lp (Int×Bool×Int) (V0×Int))))
    (n:=NN) (s:=(0,false,0)) (fun s => ∃ k:Nat,s.2.2=(k:Int)∧k≤x.length) (fun s=>x.length - s.2.2.toNat) (fun o=>(∃ s,o = .brk s) ∨ o = .ret (tokZ,3)) ⟨0,rfl,by omega⟩ (Q9u (by dsimp only; omega)) (by
      rintro⟨a,f,i⟩ ⟨k,hk,hk2⟩
      dsimp only at hk ⊢
      subst hk;rw [hsl]
      by_cases h:k < x.length
      · rw [c1 (dt (by omega))]
        simp only [jn]
        rw [B6 (by rw [hsl]; exact h),Option.bind_some];obtain⟨wv,hw⟩:=Y8m (A0 x)[k];rw [hw,Option.bind_some,Option.bind_some]
        by_cases h1:b≤wv
        · rw [c1 (dt h1)]; exact⟨_,rfl,.inr rfl⟩
        · rw [c0 (df h1)];cases decide (4294967295 < (IntKind.wrap .u64 ((IntKind.wrap .u64 (a * b))+wv))) <;> exact⟨_,rfl,⟨k+1,by dsimp only; rw [w64 (by omega)]; omega,by omega⟩,by dsimp only; rw [w64 (by omega)]; omega⟩
      · rw [c0 (df (by omega))]; exact⟨_,rfl,.inl ⟨_,rfl⟩⟩)
  refine exb ho ?_
  rcases hp with ⟨⟨a,f,i⟩,rfl⟩ | rfl
  · dsimp only [Lp.thn]
    cases f with
    | true=>exact⟨_,rfl,fun h=>by cases h⟩
    | false=>exact⟨_,rfl,fun _=>⟨rfl,rfl,Y0r _⟩⟩
  · exact⟨_,rfl,fun h=>by cases h⟩
theorem X0o (u:List UInt8) (hl:u.length≤100000) : ∃ y,numT u=some y∧(y.2=0→y.1.Text=u∧y.1.Pos=Y1x∧U32 y.1.Num):=by
  unfold numT
  simp only [jn]
  refine exb (Y9h _ _) ?_
  by_cases h1:([48,120]:List UInt8) <+: u
  · have:=h1.length_le
    simp at this
    rw [dt h1,cond_true];exact exb (Y1n (b:=u) (n:=2) this) (Y0v _ _ _ (by simp; omega))
  · rw [df h1,cond_false];refine exb (Y9h _ _) ?_
    by_cases h2:([48,88]:List UInt8) <+: u
    · have:=h2.length_le
      simp at this
      rw [dt h2,cond_true];exact exb (Y1n (b:=u) (n:=2) this) (Y0v _ _ _ (by simp; omega))
    · rw [df h2,cond_false];exact Y0v _ _ _ hl
def cBq (a b c:UInt8):Bool:=(c.toNat:Int) == 39&&(decide (32≤(b.toNat:Int))&&(decide ((b.toNat:Int)≤126)&&((b.toNat:Int) != 39&&(b.toNat:Int) != 92)))
def c3 (a b c:UInt8):V0×Int:=bif cBq a b c then (⟨3,[a,b,c],IntKind.wrap .u32 (b.toNat:Int),Y1x⟩,0) else (tokZ,3)
theorem X2m (n:Int) : ∃ y,Q9o n=some y:=by
  unfold Q9o jn;cases n == 110 <;> cases n == 116 <;> cases n == 114 <;> cases n == 48 <;> cases n == 92 <;> cases n == 39 <;> exact⟨_,rfl⟩
theorem Y5g (a b c:UInt8):Q3o [a,b,c]=some (c3 a b c):=by
  unfold Q3o c3 cBq;rw [c0 (by rfl),c1 (by rfl),show idx [a,b,c] 2=some c from rfl,show idx [a,b,c] 1=some b from rfl,show sub [a,b,c] 0 3=some [a,b,c] from rfl]
  simp only [Option.bind_some]
  cases((c.toNat:Int) == 39) <;> cases decide (32≤(b.toNat:Int)) <;> cases decide ((b.toNat:Int)≤126) <;> cases ((b.toNat:Int) != 39) <;> cases ((b.toNat:Int) != 92) <;> rfl
theorem Y2x (a b c d:UInt8) (l:List UInt8):Q3o (a::b::c::d::l)=bif ((b.toNat:Int) == 92&&(d.toNat:Int) == 39) then (Q9o (c.toNat:Int)).bind (fun y=>bif y.2 then some ((⟨3,[a,b,c,d],IntKind.wrap .u32 y.1,Y1x⟩:V0),(0:Int)) else some (tokZ,3)) else some (c3 a b c):=by
  have hl:(((a::b::c::d::l).length:Nat):Int)=l.length+4:=by simp; omega
  have hs4:sub (a::b::c::d::l) 0 4=some [a,b,c,d]:=by unfold sub; rw [if_pos (by omega)]; rfl
  have hs3:sub (a::b::c::d::l) 0 3=some [a,b,c]:=by unfold sub; rw [if_pos (by omega)]; rfl
  unfold Q3o c3 cBq;rw [hl,c1 (dt (show (4:Int)≤l.length+4 by omega)),show idx (a::b::c::d::l) 1=some b from rfl,show idx (a::b::c::d::l) 2=some c from rfl,show idx (a::b::c::d::l) 3=some d from rfl,hs4,hs3,dt (show (3:Int)≤l.length+4 by omega)]
  simp only [Option.bind_some,cond_true]
  cases((b.toNat:Int) == 92) <;> cases ((d.toNat:Int) == 39) <;> cases ((c.toNat:Int) == 39) <;> cases decide (32≤(b.toNat:Int)) <;> cases decide ((b.toNat:Int)≤126) <;> cases ((b.toNat:Int) != 39) <;> cases ((b.toNat:Int) != 92) <;> rfl
theorem X2p (s:List UInt8) : ∃ y,Q3o s=some y∧(y.2=0→y.1.Text <+: s∧y.1.Text ≠ []∧y.1.Pos=Y1x∧(∀ x ∈ y.1.Text,x=s.headD 0 ∨ x ≠ 10)∧U32 y.1.Num ∧ ∀ r,Q3o (y.1.Text++r)=some (y.1,0)):=by
  have short : ∀ l:List UInt8,l.length < 3→Q3o l=some (tokZ,3):=fun l h=>by
    unfold Q3o;rw [c0 (df (by omega)),c0 (df (by omega))]
    rfl
  have three : ∀(a b c:UInt8) (l:List UInt8),(c3 a b c).2=0→(c3 a b c).1.Text = [a,b,c]∧(c3 a b c).1.Pos=Y1x∧b ≠ 10∧c ≠ 10∧U32 (c3 a b c).1.Num ∧ ∀ r,Q3o ([a,b,c]++r)=some ((c3 a b c).1,0):=by
    intro a b c l h
    have hb:cBq a b c=true:=by
      cases hh:cBq a b c with
      | true=>rfl
      | false=>unfold c3 at h; rw [hh] at h; cases h
    have hc3:c3 a b c=(⟨3,[a,b,c],IntKind.wrap .u32 (b.toNat:Int),Y1x⟩,0):=by unfold c3; rw [hb]; rfl
    have hb2:=hb;unfold cBq at hb2
    simp only [Bool.and_eq_true,beq_iff_eq,decide_eq_true_eq,bne_iff_ne] at hb2
    rw [hc3];refine⟨rfl,rfl,?_,?_,Y0r _,fun r => ?_⟩
    · rintro rfl; have:=hb2.2.1; simp at this
    · rintro rfl; have:=hb2.1; simp at this
    · cases r with
      | nil=>rw [List.append_nil,Y5g,hc3]
      | cons d r =>
        show Q3o (a::b::c::d::r)=_;rw [Y2x,c0 (by simp [hb2.2.2.2.2]),hc3]
  match s with
  | []=>exact⟨_,short _ (by simp),fun h=>by cases h⟩
  | [a]=>exact⟨_,short _ (by simp),fun h=>by cases h⟩
  | [a,b]=>exact⟨_,short _ (by simp),fun h=>by cases h⟩
  | [a,b,c] =>
    refine⟨_,Y5g a b c,fun h => ?_⟩;obtain⟨e1,e2,e3,e4,e6,e5⟩:=three a b c [] h;rw [e1];refine⟨⟨[],rfl⟩,by simp,e2,fun x hx => ?_,e6,e5⟩
    simp only [List.mem_cons,List.not_mem_nil,or_false] at hx
    rcases hx with rfl | rfl | rfl
    · exact .inl rfl
    · exact .inr e3
    · exact .inr e4
  | a::b::c::d::l =>
    rw [Y2x];cases hbd:((b.toNat:Int) == 92&&(d.toNat:Int) == 39) with
    | false =>
      refine⟨_,rfl,fun h => ?_⟩;obtain⟨e1,e2,e3,e4,e6,e5⟩:=three a b c [] h;rw [e1];refine⟨⟨d::l,rfl⟩,by simp,e2,fun x hx => ?_,e6,e5⟩
      simp only [List.mem_cons,List.not_mem_nil,or_false] at hx
      rcases hx with rfl | rfl | rfl
      · exact .inl rfl
      · exact .inr e3
      · exact .inr e4
    | true =>
      rw [cond_true];obtain⟨⟨v,ok⟩,he⟩:=X2m (c.toNat:Int);refine exb he ?_;cases ok with
      | false=>exact⟨_,rfl,fun h=>by cases h⟩
      | true =>
        refine⟨_,rfl,fun _=>⟨⟨l,rfl⟩,by simp,rfl,fun x hx => ?_,Y0r _,fun r => ?_⟩⟩
        · dsimp only at hx
          simp only [Bool.and_eq_true,beq_iff_eq] at hbd
          simp only [List.mem_cons,List.not_mem_nil,or_false] at hx
          rcases hx with rfl | rfl | rfl | rfl
          · exact .inl rfl
          · right; rintro rfl; have:=hbd.1; simp at this
          · right
            rintro rfl;have:Q9o (((10:UInt8).toNat:Nat):Int)=some (0,false):=rfl;rw [this] at he;cases he
          · right; rintro rfl; have:=hbd.2; simp at this
        · show Q3o (a::b::c::d::r)=_;rw [Y2x,hbd,cond_true,he]
          rfl
def Z1b:List (List UInt8) := [([60,60,61]:List UInt8),([62,62,61]:List UInt8),([45,62]:List UInt8),([43,43]:List UInt8),([45,45]:List UInt8),([60,60]:List UInt8),([62,62]:List UInt8),([60,61]:List UInt8),([62,61]:List UInt8),([61,61]:List UInt8),([33,61]:List UInt8),([38,38]:List UInt8),([124,124]:List UInt8),([43,61]:List UInt8),([45,61]:List UInt8),([42,61]:List UInt8),([47,61]:List UInt8),([37,61]:List UInt8),([38,61]:List UInt8),([124,61]:List UInt8),([94,61]:List UInt8),([43]:List UInt8),([45]:List UInt8),([42]:List UInt8),([47]:List UInt8),([37]:List UInt8),([38]:List UInt8),([124]:List UInt8),([94]:List UInt8),([126]:List UInt8),([33]:List UInt8),([60]:List UInt8),([62]:List UInt8),([61]:List UInt8),([63]:List UInt8),([58]:List UInt8),([59]:List UInt8),([44]:List UInt8),([46]:List UInt8),([40]:List UInt8),([41]:List UInt8),([91]:List UInt8),([93]:List UInt8),([123]:List UInt8),([125]:List UInt8)]
def Z2t (s:List UInt8):List UInt8:=match Z1b.findIdx? (fun m=>decide (m <+: s)) with
  | some k=>Z1b.getD k []
  | none => []
theorem X1j (s:List UInt8):Z5n s=some (Z2t s):=by
  unfold Z5n Z2t;refine Y6o Z1b (fun m=>decide (m <+: s)) (fun k=>Z1b.getD k []) (by decide) (fun k hk => ?_) (by rfl) ?_
  · show(bif decide ((k:Int) < (Z1b.length:Int)) then _ else _)=_;rw [c1 (dlt hk)];refine bnd (x:=Z1b[k]) (B6 hk) ?_;refine bnd (Y9h _ _) ?_;rw [show Z1b.getD k []=Z1b[k] by simp [hk]];cases decide (Z1b[k] <+: s) <;> rfl
  · cases Z1b.findIdx? _ <;> rfl
theorem Y9c : ∀ m ∈ Z1b,m ≠ [] ∧ ∀ x ∈ m,blB x=false∧x ≠ 10:=by decide +kernel
theorem pre_app {m t r:List UInt8} (hm : ∀ x ∈ m,blB x=false) (hr:Sepr r) (h:m <+: t++r):m <+: t:=by
  by_cases hl:m.length≤t.length
  · exact List.prefix_of_prefix_length_le h (List.prefix_append t r) hl
  · exfalso
    obtain⟨q,hq⟩:=h;have hlt:t.length < m.length:=by omega
    have h1:(m++q)[t.length]? = m[t.length]? := List.getElem?_append_left hlt;rw [hq,List.getElem?_append_right (Nat.le_refl _),Nat.sub_self] at h1;rw [List.getElem?_eq_getElem hlt] at h1;have h2:=hr m[t.length] (by rw [List.head?_eq_getElem?]; exact h1);rw [hm _ (List.getElem_mem hlt)] at h2;cases h2
theorem X2e (s:List UInt8) (h:Z2t s ≠ []):Z2t s <+: s∧(∀ x ∈ Z2t s,blB x=false∧x ≠ 10) ∧ ∀ r,Sepr r→Z2t (Z2t s++r)=Z2t s:=by
  cases hf:Z1b.findIdx? (fun m=>decide (m <+: s)) with
  | none=>exact absurd (by unfold Z2t; rw [hf]) h
  | some k =>
    obtain⟨hk,hp,hlt⟩:=List.findIdx?_eq_some_iff_getElem.1 hf;have hmk:Z2t s=Z1b[k]:=by unfold Z2t; rw [hf]; simp [hk]
    rw [hmk];have hp' : Z1b[k] <+: s:=by simpa using hp
    refine⟨hp',(Y9c _ (List.getElem_mem hk)).2,fun r hr => ?_⟩
    have:Z1b.findIdx? (fun m=>decide (m <+: Z1b[k]++r))=some k:=by
      refine List.findIdx?_eq_some_iff_getElem.2 ⟨hk,by simp,fun j hj => ?_⟩;have hn:=hlt j hj;intro hc;have hc' : Z1b[j] <+: Z1b[k]++r:=by simpa using hc
      have:=pre_app (fun x hx=>((Y9c _ (List.getElem_mem (Nat.lt_trans hj hk))).2 x hx).1) hr hc';exact absurd (this.trans hp') (by simpa using hn)
    unfold Z2t;rw [this]
    simp [hk]
theorem Y4h (s:List UInt8) (hs:s ≠ []) (hl:s.length≤100000) : ∃ y,Q4j s=some y∧(y.2=0→Tok y.1 s):=by
  obtain⟨c,l,rfl⟩ : ∃ c l,s=c::l:=by
    cases s with
    | nil=>exact absurd rfl hs
    | cons c l=>exact⟨c,l,rfl⟩
  have key : ∀ l',Q4j (c::l')=(bif letB (c.toNat:Int) then ((Q9n (c::l')).bind fun y2=>(sub (c::l') 0 y2).bind fun u2=>bif decide (31 < y2) then (some ((⟨1,u2,0,(⟨0,0⟩:Pos)⟩:V0),(2:Int))) else (jn (fun kk1=>(Z4a u2).bind fun y3=>bif y3 then (kk1 (⟨2,u2,0,(⟨0,0⟩:Pos)⟩:V0)) else (kk1 (⟨1,u2,0,(⟨0,0⟩:Pos)⟩:V0))) (fun(x1:V0)=>some (x1,(0:Int))))) else (bif digB (c.toNat:Int) then ((Z1j (c::l')).bind fun y5=>some (y5.1,y5.2)) else (bif (UInt8.toNat c:Int) == 39 then ((Q3o (c::l')).bind fun y6=>some (y6.1,y6.2)) else ((Z5n (c::l')).bind fun y7=>bif decide (y7=([]:List UInt8)) then (some ((⟨0,([]:List UInt8),0,(⟨0,0⟩:Pos)⟩:V0),(3:Int))) else (some ((⟨4,y7,0,(⟨0,0⟩:Pos)⟩:V0),(0:Int))))))):=fun l' => by
    unfold Q4j;rw [show idx (c::l') 0=some c from rfl]
    simp only [Option.bind_some,Y6n,Y5e]
  have hmore:letB (c.toNat:Int)=true ∨ digB (c.toNat:Int)=true→Q1w c=true:=fun h=>by
    unfold Q1w
    rcases h with h | h <;> rw [h] <;> simp
  have hsp1:Q1w c=true→1≤sp Q1w (c::l):=fun h=>by
    show 1≤(if Q1w c then sp Q1w l+1 else 0);rw [if_pos h]; omega
  rw [key];cases hlet:letB (c.toNat:Int) with
  | true =>
    rw [cond_true];refine exb (Y4i _ (by omega)) ?_;refine exb (Z5h (Y1p _ _)) ?_;have h1:=hsp1 (hmore (.inl hlet));have hle:=Y1p Q1w (c::l);have hall:=Y2y Q1w (c::l)
    by_cases h31:(31:Int) < ((sp Q1w (c::l):Nat):Int)
    · rw [c1 (dt h31)]; exact⟨_,rfl,fun h=>by cases h⟩
    · rw [c0 (df h31)]
      simp only [jn]
      have hlen:((c::l).take (sp Q1w (c::l))).length=sp Q1w (c::l):=by rw [List.length_take]; omega
      have htc : ∃ q,(c::l).take (sp Q1w (c::l))=c::q:=by
        cases hn:sp Q1w (c::l) with
        | zero=>omega
        | succ m=>exact⟨_,rfl⟩
      have hpre:=List.take_prefix (sp Q1w (c::l)) (c::l)
      generalize (c::l).take (sp Q1w (c::l))=u at hall hlen htc hpre ⊢
      obtain⟨q,rfl⟩:=htc
      have hag : ∀ r,Sepr r→((c::q)++r).length≤100000→Q4j ((c::q)++r)=(Z4a (c::q)).bind fun y3=>bif y3 then (some ((⟨2,c::q,0,(⟨0,0⟩:Pos)⟩:V0),(0:Int))) else (some ((⟨1,c::q,0,(⟨0,0⟩:Pos)⟩:V0),(0:Int))):=fun r hr hlr=>by
        have hsp:=Y2z hall hr;rw [List.cons_append,key,hlet,cond_true];refine bnd (Y4i _ (by rw [List.cons_append] at hlr; omega)) ?_;rw [← List.cons_append,hsp];refine bnd (x:=c::q) ?_ ?_
        · rw [Z5h (by simp)]; simp
        · rw [c0 (df (by rw [hlen]; exact h31))]
          rfl
      rw [X1s,Option.bind_some];rw [X1s] at hag;cases hw:wordB (c::q) with
      | true=>exact⟨_,rfl,fun _=>⟨hpre,by simp,rfl,fun x hx=>Z8v (hall x hx),fun r hr hlr=>by rw [show (⟨2,c::q,0,Y1x⟩:V0).Text=c::q from rfl,hag r hr hlr,hw]; rfl,Z6c⟩⟩
      | false=>exact⟨_,rfl,fun _=>⟨hpre,by simp,rfl,fun x hx=>Z8v (hall x hx),fun r hr hlr=>by rw [show (⟨1,c::q,0,Y1x⟩:V0).Text=c::q from rfl,hag r hr hlr,hw]; rfl,Z6c⟩⟩
  | false =>
    rw [cond_false];cases hdig:digB (c.toNat:Int) with
    | true =>
      rw [cond_true,Y6m _ hl];have h1:=hsp1 (hmore (.inr hdig));have hall:=Y2y Q1w (c::l);have hlen:((c::l).take (sp Q1w (c::l))).length=sp Q1w (c::l):=by have:=Y1p Q1w (c::l); rw [List.length_take]; omega
      have htc : ∃ q,(c::l).take (sp Q1w (c::l))=c::q:=by
        cases hn:sp Q1w (c::l) with
        | zero=>omega
        | succ m=>exact⟨_,rfl⟩
      have hpre:=List.take_prefix (sp Q1w (c::l)) (c::l)
      generalize (c::l).take (sp Q1w (c::l))=u at hall hlen htc hpre ⊢
      obtain⟨q,rfl⟩:=htc;obtain⟨⟨t,e⟩,hy,hp⟩:=X0o (c::q) (Nat.le_trans hpre.length_le hl);refine exb hy ?_;refine⟨_,rfl,fun he => ?_⟩
      dsimp only at he hp
      obtain⟨e1,e2,e3⟩:=hp he;subst he;refine⟨by dsimp only; rw [e1]; exact hpre,by dsimp only; rw [e1]; simp,e2,fun x hx=>Z8v (hall x (by dsimp only at hx; rwa [e1] at hx)),fun r hr hlr => ?_,e3⟩
      dsimp only at hlr ⊢
      rw [e1] at hlr ⊢;rw [List.cons_append,key,hlet,cond_false,hdig,cond_true,← List.cons_append,Y6m _ hlr,Y2z hall hr];rw [List.take_append_of_le_length (Nat.le_refl _),List.take_length,hy]
      rfl
    | false =>
      rw [cond_false];cases hq:((c.toNat:Int) == 39) with
      | true =>
        rw [cond_true];obtain⟨⟨t,e⟩,hy,hp⟩:=X2p (c::l);refine exb hy ?_;refine⟨_,rfl,fun he => ?_⟩
        dsimp only at he hp
        obtain⟨p1,p2,p3,p4,p6,p5⟩:=hp he;subst he;refine⟨p1,p2,p3,fun x hx => ?_,fun r hr hlr => ?_,p6⟩
        · rcases p4 x hx with h | h
          · rw [h];rintro h10;rw [show (c::l).headD 0=c from rfl] at h10;subst h10
            simp at hq
          · exact h
        · have hc : ∃ q,t.Text=c::q:=by
            obtain⟨z,hz⟩:=p1;cases htt:t.Text with
            | nil=>exact absurd htt p2
            | cons x q=>rw [htt] at hz; cases hz; exact⟨q,rfl⟩
          obtain⟨q,hq2⟩:=hc;have:=p5 r
          dsimp only at this ⊢
          rw [hq2,List.cons_append] at this ⊢;rw [key,hlet,cond_false,hdig,cond_false,hq,cond_true,this]
          rfl
      | false =>
        rw [cond_false];refine exb (X1j _) ?_
        by_cases hm:Z2t (c::l) = []
        · rw [c1 (dt hm)]; exact⟨_,rfl,fun h=>by cases h⟩
        · rw [c0 (df hm)];obtain⟨p1,p2,p3⟩:=X2e _ hm;refine⟨_,rfl,fun _=>⟨p1,hm,rfl,fun x hx=>(p2 x hx).2,fun r hr hlr => ?_,Z6c⟩⟩
          dsimp only at hlr ⊢
          have p3' := p3 r hr
          have hc : ∃ q,Z2t (c::l)=c::q:=by
            obtain⟨z,hz⟩:=p1;cases htt:Z2t (c::l) with
            | nil=>exact absurd htt hm
            | cons x q=>rw [htt] at hz; cases hz; exact⟨q,rfl⟩
          generalize Z2t (c::l)=mm at hc p3' hm hlr ⊢
          obtain⟨q,rfl⟩:=hc;rw [List.cons_append] at p3' ⊢;rw [key,hlet,cond_false,hdig,cond_false,hq,cond_false,X1j,Option.bind_some,p3',c0 (df hm)]
def Y1o (t:V0):V0 := {t with Pos:=Y1x}
inductive Lx:List UInt8→List V0→Prop
  | nil:Lx [] []
  | blank {s:List UInt8} {ts:List V0} (h:s ≠ []) (n:Nat) (hn:blS s=(n:Int)) (h0:0 < n) (k:Lx (s.drop n) ts):Lx s ts
  | tok {s:List UInt8} {t:V0} {ts:List V0} (h:s ≠ []) (hb:blS s=0) (ht:Q4j s=some (t,0)) (k:Lx (s.drop t.Text.length) ts):Lx s (t::ts)
def adv (p:Pos):List UInt8→Pos
  | []=>p
  | c::l=>adv (if c=10 then ⟨p.Line+1,1⟩ else ⟨p.Line,p.Col+1⟩) l
theorem adv_app (p:Pos) : ∀(a b:List UInt8),adv p (a++b)=adv (adv p a) b:=by
  intro a
  induction a generalizing p with
  | nil=>intro b; rfl
  | cons c a ih=>intro b; exact ih _ b
def Pn (p:Pos):Prop:=p ≠ (⟨0,0⟩:Pos)
def outW:List UInt8 := [111,117,116]
structure Y0o (p:Pos) (m:Nat):Prop where
  l:1≤p.Line∧p.Line≤m
  c:0≤p.Col∧p.Col≤m
theorem Y0o.pn {p:Pos} {m:Nat} (h:Y0o p m):Pn p:=fun e=>by have:=h.l; rw [e] at this; exact absurd this.1 (by decide)
theorem X0y {p:Pos} {m:Nat} (h:Y0o p m) (h1:1≤m) : ∀ a:List UInt8,Y0o (adv p a) (m+a.length):=by
  intro a
  induction a generalizing p m with
  | nil=>exact h
  | cons c a ih =>
    have hl:=h.l; have hc:=h.c
    have:Y0o (if c=10 then ⟨p.Line+1,1⟩ else ⟨p.Line,p.Col+1⟩) (m+1):=by
      split
      · exact⟨by dsimp only; omega,by dsimp only; omega⟩
      · exact⟨by dsimp only; omega,by dsimp only; omega⟩
    have:=ih this (by omega);rw [show m+(c::a).length=m+1+a.length by simp; omega];exact this
theorem X1f {s:List UInt8} {p:Pos} {m:Nat} (h:Y0o p m) (h1:1≤m) (hm:m+s.length≤1000000) {n:Nat} (hn:n≤s.length):Q0c ⟨s,p⟩ (n:Int)=some ⟨s.drop n,adv p (s.take n)⟩:=by
  unfold Q0c
  dsimp only
  rw [Z5h hn,Option.bind_some];have hlen:(s.take n).length=n:=by rw [List.length_take]; omega
  generalize hu:s.take n=u at hlen ⊢
  rw [P4 (by omega),Option.bind_some];have hsl:(A0 u).length=u.length:=by simp [A0]
  refine run_bind (fun k=>((k:Int),(⟨s,adv p (u.take k)⟩:B9))) u.length (.brk ((u.length:Int),⟨s,adv p u⟩)) rfl (by omega) (fun k hk => ?_) ?_ trivial ?_
  · dsimp only
    have hp:=X0y h h1 (u.take k);have hl:=hp.l; have hc:=hp.c;have hkl:(u.take k).length=k:=by rw [List.length_take]; omega
    rw [hkl] at hl hc;rw [c1 (dt (by rw [hsl]; omega))]
    simp only [jn]
    rw [B6 (by rw [hsl]; exact hk),Option.bind_some,List.take_succ_eq_append_getElem hk,adv_app];have e:(A0 u)[k]'(by rw [hsl]; exact hk)=(u[k].toNat:Int):=by simp [A0]
    rw [e,w64 (x:=(k:Int)+1) (by omega)]
    by_cases h10:u[k]=10
    · rw [c1 (by rw [h10]; rfl),w64 (by omega)];show _=some (Lp.go (((k+1:Nat):Int),(⟨s,(if u[k]=10 then ⟨(adv p (u.take k)).Line+1,1⟩ else ⟨(adv p (u.take k)).Line,(adv p (u.take k)).Col+1⟩)⟩:B9)));rw [if_pos h10]
      rfl
    · rw [c0 (by simp; intro hh; exact h10 (UInt8.toNat_inj.1 (by rw [show (10:UInt8).toNat=10 from rfl]; omega))),w64 (by omega)];show _=some (Lp.go (((k+1:Nat):Int),(⟨s,(if u[k]=10 then ⟨(adv p (u.take k)).Line+1,1⟩ else ⟨(adv p (u.take k)).Line,(adv p (u.take k)).Col+1⟩)⟩:B9)));rw [if_neg h10]
      rfl
  · dsimp only
    rw [hsl,c0 (dge _),List.take_length]
  · dsimp only [Lp.thn]
    rw [Y1n hn,Option.bind_some]
def Z4m:List V0×B9→Option (Lp (List V0×B9) (List V0×Pos×Int)):=fun(x1,x2)=>(bif !(decide (x2.s=([]:List UInt8))) then ((Z3i x2.s).bind fun y1=>bif decide (y1 < 0) then (some (Lp.ret ([],x2.pos,(3:Int)))) else (bif decide (0 < y1) then ((Q0c x2 y1).bind fun y2=>some (Lp.go (x1,y2))) else ((Q4j x2.s).bind fun y3=>bif y3.2 != 0 then (some (Lp.ret ([],x2.pos,y3.2))) else ((S0 (List.length x1+List.length ([{y3.1 with Pos:=x2.pos}]:List V0))).bind fun _=>(Q0c x2 (List.length y3.1.Text:Int)).bind fun y4=>some (Lp.go (x1++([{y3.1 with Pos:=x2.pos}]:List V0),y4)))))) else (some (Lp.brk (x1,x2))))
theorem X0v {x1:List V0} {s:List UInt8} {p:Pos} {m:Nat} (h:Y0o p m) (h1:1≤m) (hm:m+s.length≤1000000) (hl:s.length≤100000) (hs:s ≠ []) {n:Nat} (hn:blS s=(n:Int)) (h0:0 < n) :
    Z4m (x1,⟨s,p⟩)=some (.go (x1,⟨s.drop n,adv p (s.take n)⟩)):=by
  have hb:=Y5n s hl;unfold Z4m
  dsimp only
  rw [c1 (by simpa using hs)];refine bnd hb.1 ?_;rw [hn,c0 (df (by omega)),c1 (dt (by omega))];refine bnd (X1f h h1 hm (by omega)) rfl
theorem body_tok {x1:List V0} {s:List UInt8} {p:Pos} {m:Nat} (h:Y0o p m) (h1:1≤m) (hm:m+s.length≤1000000) (hl:s.length≤100000) (hx:x1.length≤1000000) (hs:s ≠ []) (hb:blS s=0) {t:V0} (ht:Q4j s=some (t,0)) (hpre:t.Text <+: s) :
    Z4m (x1,⟨s,p⟩)=some (.go (x1 ++ [{t with Pos:=p}],⟨s.drop t.Text.length,adv p t.Text⟩)):=by
  have hbe:=Y5n s hl;have htake:s.take t.Text.length=t.Text:=(List.prefix_iff_eq_take.1 hpre).symm;unfold Z4m
  dsimp only
  rw [c1 (by simpa using hs)];refine bnd hbe.1 ?_;rw [hb,c0 (df (by omega)),c0 (df (by omega))];refine bnd ht ?_;rw [c0 (by rfl),P4 (by simp; omega),Option.bind_some];refine bnd (X1f h h1 hm hpre.length_le) ?_;rw [htake]
theorem body_end {x1:List V0} {p:Pos} : Z4m (x1,⟨[],p⟩)=some (.brk (x1,⟨[],p⟩)):=rfl
theorem posOk1:Y0o ⟨1,1⟩ 1:=⟨by decide,by decide⟩
theorem X2i (s:List UInt8) (hl:s.length≤65536) : ∃ y,Y2e s=some y∧((y.2.2=0∧Lx s (y.1.map Y1o)∧(∀ t ∈ y.1,Pn t.Pos)∧Pn y.2.1) ∨ (y.2.2 ≠ 0∧y.1 = [])):=by
  unfold Y2e;rw [c0 (df (by omega))]
  obtain⟨o,ho,hp⟩:=Q3b (R:=List V0×Pos×Int) (body:=Z4m) (n:=NN) (s:=([],(⟨s,(⟨1,1⟩:Pos)⟩:B9)))
    (fun x=>x.2.s.length≤s.length∧Y0o x.2.pos (1+(s.length - x.2.s.length))∧x.1.length+x.2.s.length≤s.length∧(∀ t ∈ x.1,Pn t.Pos) ∧ ∀ ts,Lx x.2.s ts→Lx s (x.1.map Y1o++ts)) (fun x=>x.2.s.length)
    (fun o=>(∃ q p,o = .brk (q,⟨[],p⟩)∧Lx s (q.map Y1o)∧(∀ t ∈ q,Pn t.Pos)∧Pn p) ∨ ∃ p e,o = .ret ([],p,e)∧e ≠ 0)
    ⟨Nat.le_refl _,by dsimp only; rw [Nat.sub_self]; exact posOk1,by simp,by simp,fun ts h=>h⟩ (Q9u (by dsimp only; omega)) (by
      rintro⟨x1,⟨u,p⟩⟩ ⟨h1,h2,h3,h5,h4⟩
      dsimp only at h1 h2 h3 h4 h5 ⊢
      by_cases hu:u = []
      · subst hu;exact⟨_,body_end,.inl ⟨x1,p,rfl,by have:=h4 [] .nil; rwa [List.append_nil] at this,h5,h2.pn⟩⟩
      · have hb:=Y5n u (by omega)
        by_cases hneg:blS u < 0
        · refine⟨.ret ([],p,3),?_,.inr ⟨p,3,rfl,by decide⟩⟩;unfold Z4m
          dsimp only
          rw [c1 (by simpa using hu)];refine bnd hb.1 ?_;rw [c1 (dt hneg)]
        · by_cases hpos:0 < blS u
          · obtain⟨n,hn⟩:=Int.eq_ofNat_of_zero_le (show 0≤blS u by omega);have htk:(u.take n).length=n:=by rw [List.length_take]; omega
            refine⟨_,X0v h2 (by omega) (by omega) (by omega) hu hn (by omega),⟨by dsimp only; rw [List.length_drop]; omega,?_,by dsimp only; rw [List.length_drop]; omega,h5,fun ts hts=>h4 ts (.blank hu n hn (by omega) hts)⟩,by dsimp only; rw [List.length_drop]; omega⟩;have:=X0y h2 (by omega) (u.take n)
            dsimp only
            rw [List.length_drop,show 1+(s.length - (u.length - n))=1+(s.length - u.length)+(u.take n).length by omega];exact this
          · have hz:blS u=0:=by omega
            obtain⟨⟨t,e⟩,hy,hT⟩:=Y4h u hu (by omega)
            by_cases he:e=0
            · subst he;have hT:Tok t u:=hT rfl;have hpl:=hT.pre.length_le;have hne:1≤t.Text.length:=List.length_pos_iff.2 hT.ne;refine⟨_,body_tok h2 (by omega) (by omega) (by omega) (by omega) hu hz hy hT.pre,⟨by dsimp only; rw [List.length_drop]; omega,?_,by dsimp only; rw [List.length_drop]; simp; omega,by intro z hz; rcases List.mem_append.1 hz with hz | hz; exact h5 z hz; rw [List.mem_singleton.1 hz]; exact h2.pn,fun ts hts => ?_⟩,by dsimp only; rw [List.length_drop]; omega⟩
              · have:=X0y h2 (by omega) t.Text
                dsimp only
                rw [List.length_drop,show 1+(s.length - (u.length - t.Text.length))=1+(s.length - u.length)+t.Text.length by omega];exact this
              · have:=h4 (t::ts) (.tok hu hz hy hts)
                dsimp only
                rw [List.map_append,List.append_assoc]
                have hst:Y1o {t with Pos:=p} = t:=by
                  have:=hT.pos;obtain⟨a,b,c,d⟩:=t
                  dsimp only at this
                  subst this
                  rfl
                rw [show List.map Y1o [{t with Pos:=p}] = [t] by rw [List.map_cons,hst]; rfl];exact this
            · refine⟨.ret ([],p,e),?_,.inr ⟨p,e,rfl,he⟩⟩;unfold Z4m
              dsimp only
              rw [c1 (by simpa using hu)];refine bnd hb.1 ?_;rw [c0 (df hneg),c0 (df hpos)];refine bnd hy ?_;rw [c1 (by simpa using he)])
  refine exb ho ?_
  rcases hp with ⟨q,p,rfl,hL⟩ | ⟨p,e,rfl,he⟩
  · exact⟨_,rfl,.inl ⟨rfl,hL⟩⟩
  · exact⟨_,rfl,.inr ⟨he,rfl⟩⟩
theorem lz {t:V0} {l:List V0} : ((List.length (t::l):Int) == 0)=false:=beq_eq_false_iff_ne.2 (by simp only [List.length_cons]; omega)
theorem Y7n (t:V0) (l:List V0) (e:Pos) (d:Int):F3 ⟨t::l,e,d⟩=some t.Pos:=by
  unfold F3;rw [c0 lz]
  rfl
theorem mark_hit {t:V0} {l:List V0} {e:Pos} {d:Int} (h:t.Kind=4):E7 ⟨t::l,e,d⟩=some t.Text:=by
  unfold E7;rw [c0 lz];refine bnd (x:=t) rfl ?_;rw [c0 (by rw [h]; rfl)]
  rfl
theorem X2f {t:V0} {l:List V0} {e:Pos} {d:Int} (h:t.Kind ≠ 4):E7 ⟨t::l,e,d⟩=some []:=by
  unfold E7;rw [c0 lz];refine bnd (x:=t) rfl ?_;rw [c1 (by simpa using h)]
theorem is_hit {t:V0} {l:List V0} {e:Pos} {d:Int} {m:List UInt8} (h:t.Text=m) (hk:t.Kind=2 ∨ t.Kind=4):V7 ⟨t::l,e,d⟩ m=some true:=by
  unfold V7 I7;rw [c1 (dt (by simp only [List.length_cons]; omega))];refine bnd (x:=true) (bnd (x:=t) rfl ?_) rfl;rw [c1 (dt h)];refine bnd (x:=t) rfl ?_
  rcases hk with hk | hk
  · rw [c1 (by rw [hk]; rfl)]
  · rw [c0 (by rw [hk]; rfl)];refine bnd (x:=t) rfl ?_;rw [hk]; rfl
theorem is_miss {t:V0} {l:List V0} {e:Pos} {d:Int} {m:List UInt8} (h:t.Text ≠ m):V7 ⟨t::l,e,d⟩ m=some false:=by
  unfold V7 I7;rw [c1 (dt (by simp only [List.length_cons]; omega))];refine bnd (x:=false) (bnd (x:=t) rfl ?_) rfl;rw [c0 (df h)]
theorem Y1m {α : Type} (t : α) (l:List α):sub (t::l) 1 (List.length (t::l):Int)=some l:=by
  unfold sub;rw [if_pos (by simp only [List.length_cons]; omega)]
  simp
theorem take_hit {t:V0} {l:List V0} {e:Pos} {d:Int} {m:List UInt8} (h:t.Text=m) (hk:t.Kind=2 ∨ t.Kind=4):X3 ⟨t::l,e,d⟩ m=some (true,⟨l,e,d⟩):=by
  unfold X3;refine bnd (is_hit h hk) ?_;refine(c0 (by rfl)).trans ?_;exact bnd (Y1m t l) rfl
theorem kind_hit {t:V0} {l:List V0} {e:Pos} {d k:Int} (h:t.Kind=k):C9 ⟨t::l,e,d⟩ k=some (.ok (t,⟨l,e,d⟩)):=by
  unfold C9 jn
  dsimp only
  rw [c0 lz];refine bnd (x:=t) rfl ?_;rw [c0 (by rw [h]; exact bne_self_eq_false k)];refine bnd (x:=t) rfl ?_;exact bnd (Y1m t l) rfl
theorem X2n {l:List V0} {e:Pos} {d:Int} (h0:0≤d) (h:d < 200):N8 ⟨l,e,d⟩=some (.ok ⟨l,e,d+1⟩):=by
  unfold N8 jn
  dsimp only
  rw [c0 (beq_eq_false_iff_ne.2 (by omega)),w64 (by omega)]
def ps (b:UInt8) (c:Nat):Nat→List V0
  | 0 => []
  | a+1=>⟨4,[b],0,⟨1,(c:Int)⟩⟩::ps b (c+1) a
def wE:Z8→Nat
  | ⟨a,b,c,d,e,f,ks⟩=>1+f.Stars.toNat+(ks.attach.map fun k=>wE k.1).sum
termination_by x=>SizeOf.sizeOf x
decreasing_by
  have:=List.sizeOf_lt_of_mem k.2
  simp only [Z8.mk.sizeOf_spec]
  omega
def sm {α : Type} (w : α → Nat) (l:List α):Nat:=(l.map w).sum
theorem Y6d (x:Z8):wE x=1+x.Type_.Stars.toNat+sm wE x.Kids:=by
  obtain⟨a,b,c,d,e,f,ks⟩:=x;rw [wE]
  simp [sm]
def wV (v:F2):Nat:=1+v.Type_.Stars.toNat+v.Dims.length+sm wE v.Init
def wS:U0→Nat
  | ⟨a,b,c,d,e,f,bs,es,cs⟩=>1+sm wE c+sm wE d+sm wE e+sm wV f+(bs.attach.map fun k=>wS k.1).sum+(es.attach.map fun k=>wS k.1).sum+(cs.attach.map fun c=>1+(c.1.Body.attach.map fun k=>wS k.1).sum).sum
termination_by x=>SizeOf.sizeOf x
decreasing_by
  · have:=List.sizeOf_lt_of_mem k.2
    simp only [U0.mk.sizeOf_spec]
    omega
  · have:=List.sizeOf_lt_of_mem k.2
    simp only [U0.mk.sizeOf_spec]
    omega
  · have h1:=List.sizeOf_lt_of_mem k.2
    have h2:=List.sizeOf_lt_of_mem c.2
    obtain⟨⟨c1,c2,c3,c4⟩,hc⟩:=c
    simp only [Y5r.mk.sizeOf_spec] at h2
    simp only [U0.mk.sizeOf_spec]
    dsimp only at h1
    omega
def wC (c:E8):Nat:=1+sm wS c.Body
theorem Z8c (x:U0):wS x=1+sm wE x.A+sm wE x.B+sm wE x.C+sm wV x.Var+sm wS x.Body+sm wS x.Else+sm wC x.Cases:=by
  obtain⟨a,b,c,d,e,f,bs,es,cs⟩:=x;rw [wS]
  simp [sm]
  rfl
def wT (s:D4):Nat:=1+sm wV s.Fields
def wF (f:P3):Nat:=1+f.Ret.Stars.toNat+sm wV f.Params+sm wS f.Body
def wP (p:J2):Nat:=sm wT p.Structs+sm wV p.Globals+sm wF p.Funcs
theorem Q7k {α : Type} (w : α → Nat) (x : α) (l:List α):sm w (x::l)=w x+sm w l:=by simp [sm]
theorem Q1t {α : Type} (w : α → Nat) (a b:List α):sm w (a++b)=sm w a+sm w b:=by simp [sm]
theorem W6 {α : Type} {w : α → Nat} (hw : ∀ x,1≤w x) : ∀ l:List α,l.length≤sm w l
  | []=>Nat.zero_le _
  | x::l=>by rw [Q7k,List.length_cons]; have:=W6 hw l; have:=hw x; omega
theorem Q2e (x:Z8):1≤wE x:=by rw [Y6d]; omega
theorem Z6b (x:F2):1≤wV x:=by unfold wV; omega
theorem Z4r (x:U0):1≤wS x:=by rw [Z8c]; omega
theorem X0a (x:E8):1≤wC x:=by unfold wC; omega
theorem Y7c (x:D4):1≤wT x:=by unfold wT; omega
theorem Y7d (x:P3):1≤wF x:=by unfold wF; omega
def OkT (t:B3):Prop:=t.Word.length≤70000∧t.Name.length≤70000∧t.Stars≤1000000
def Z2m (k:Int):Nat:=if k=3 ∨ k=9 ∨ k=10 ∨ k=11 then 1 else if k=4 ∨ k=5 ∨ k=8 then 2 else if k=6 then 3 else 0
def Ex (k:Int) (p:Pos) (o n:List UInt8) (m:Nat):Prop:=Pn p∧(k=7→n=outW→1≤m)∧(k=5→o ≠ [])
theorem Ex.of {k:Int} {p:Pos} {o n:List UInt8} {m:Nat} (hp:Pn p) (h7:k ≠ 7) (h5:k ≠ 5):Ex k p o n m:=⟨hp,fun h=>absurd h h7,fun h=>absurd h h5⟩
def Sa (k:Int) (a v:Nat):Prop:=((k=1 ∨ k=3 ∨ k=4 ∨ k=5 ∨ k=7)→1≤a)∧(k=2→1≤v)
inductive OkE:Z8→Prop
  | mk {x:Z8} (kids : ∀ k ∈ x.Kids,OkE k) (name:x.Name.length≤70000) (op:x.Op.length≤70000) (ty:OkT x.Type_) (ar:Z2m x.Kind≤x.Kids.length) (ex:Ex x.Kind x.Pos x.Op x.Name x.Kids.length) (nu:U32 x.Num):OkE x
structure OkV (v:F2):Prop where
  name:v.Name.length≤70000
  ty:OkT v.Type_
  init : ∀ x ∈ v.Init,OkE x
  pos:Pn v.Pos
  br:v.Brace=false→v.Init.length≤1
inductive OkS:U0→Prop
  | mk {x:U0} (a : ∀ y ∈ x.A,OkE y) (b : ∀ y ∈ x.B,OkE y) (c : ∀ y ∈ x.C,OkE y) (v : ∀ y ∈ x.Var,OkV y) (s : ∀ y ∈ x.Body,OkS y) (e : ∀ y ∈ x.Else,OkS y) (d : ∀ c ∈ x.Cases,∀ y ∈ c.Body,OkS y) (sp:Pn x.Pos) (sa:Sa x.Kind x.A.length x.Var.length) (cp : ∀ c ∈ x.Cases,Pn c.Pos):OkS x
structure OkF (f:P3):Prop where
  name:f.Name.length≤70000
  ty:OkT f.Ret
  ps : ∀ v ∈ f.Params,OkV v
  body : ∀ x ∈ f.Body,OkS x
  pos:Pn f.Pos
structure OkP (p:J2):Prop where
  s : ∀ s ∈ p.Structs,s.Name.length≤70000∧(∀ v ∈ s.Fields,OkV v)∧Pn s.Pos
  g : ∀ v ∈ p.Globals,OkV v
  f : ∀ f ∈ p.Funcs,OkF f
structure Af (r r' : Z0) (k:Nat):Prop where
  len:r'.l.length+k≤r.l.length
  tk : ∀ t ∈ r'.l,t ∈ r.l
  d:r'.depth=r.depth
  en:r'.end_=r.end_
theorem Af.refl (r:Z0):Af r r 0:=⟨Nat.le_refl _,fun _ h=>h,rfl,rfl⟩
theorem Af.trans {a b c:Z0} {j k:Nat} (h:Af a b j) (g:Af b c k):Af a c (j+k):=⟨by have:=h.len; have:=g.len; omega,fun t ht=>h.tk t (g.tk t ht),g.d.trans h.d,g.en.trans h.en⟩
theorem Af.mono {a b:Z0} {j k:Nat} (h:Af a b j) (hk:k≤j):Af a b k:=⟨by have:=h.len; omega,h.tk,h.d,h.en⟩
structure Rd (r:Z0):Prop where
  tx : ∀ t ∈ r.l,t.Text.length≤70000
  len:r.l.length≤5000
  d:0≤r.depth∧r.depth≤200
  tp : ∀ t ∈ r.l,Pn t.Pos
  te:Pn r.end_
  tn : ∀ t ∈ r.l,t.Kind=1→t.Text ≠ outW
  tu : ∀ t ∈ r.l,U32 t.Num
theorem Rd.after {r r' : Z0} {k:Nat} (h:Rd r) (g:Af r r' k):Rd r' := ⟨fun t ht=>h.tx t (g.tk t ht),by have:=g.len; have:=h.len; omega,by rw [g.d]; exact h.d,fun t ht=>h.tp t (g.tk t ht),by rw [g.en]; exact h.te,fun t ht=>h.tn t (g.tk t ht),fun t ht=>h.tu t (g.tk t ht)⟩
def Ok {E A:Type} (y:Option (Except E A)) (p:A→Prop):Prop := ∃ z,y=some z∧match z with
  | .error _=>True
  | .ok x=>p x
theorem Ok.ok {E A:Type} {x:A} {p:A→Prop} (h:p x):Ok (some (Except.ok (ε := E) x)) p:=⟨_,rfl,h⟩
theorem Ok.err {E A:Type} {e:E} {p:A→Prop} : Ok (some (Except.error (α := A) e)) p:=⟨_,rfl,trivial⟩
theorem Ok.mono {E A:Type} {y:Option (Except E A)} {p q:A→Prop} (h:Ok y p) (hpq : ∀ x,p x→q x):Ok y q:=by
  obtain⟨z,e,hz⟩:=h;refine⟨z,e,?_⟩;cases z with
  | error _=>trivial
  | ok x=>exact hpq x hz
theorem Ok.bind {E E' A B:Type} {y:Option (Except E A)} {p:A→Prop} {f:A→Option (Except E' B)} {g:E→E'} {q:B→Prop} (h:Ok y p) (hf : ∀ x,p x→Ok (f x) q):Ok (y.bind fun z=>exC z (fun z=>f z) (fun e=>some (Except.error (g e)))) q:=by
  obtain⟨z,e,hz⟩:=h;rw [e,Option.bind_some];cases z with
  | error e=>exact⟨_,rfl,trivial⟩
  | ok x=>exact hf x hz
theorem Ok.step {E A B:Type} {m:Option B} {x:B} {f:B→Option (Except E A)} {q:A→Prop} (h:m=some x) (k:Ok (f x) q):Ok (m.bind f) q:=by subst h; exact k
theorem Z1m (r:Z0) (m:List UInt8) : ∃ b,V7 r m=some b∧(b=true → ∃ t l,r.l=t::l∧t.Text=m∧(t.Kind=2 ∨ t.Kind=4)):=by
  obtain⟨l,e,d⟩:=r;cases l with
  | nil=>exact⟨false,rfl,fun h=>by cases h⟩
  | cons t l =>
    by_cases h:t.Text=m
    · by_cases hk:t.Kind=2 ∨ t.Kind=4
      · exact⟨true,is_hit h hk,fun _=>⟨t,l,rfl,h,hk⟩⟩
      · refine⟨false,?_,fun h=>by cases h⟩;unfold V7 I7;rw [c1 (dt (by simp only [List.length_cons]; omega))];refine bnd (x:=false) (bnd (x:=t) rfl ?_) rfl;rw [c1 (dt h)];refine bnd (x:=t) rfl ?_;rw [c0 (by simp; exact fun h=>hk (.inl h))];refine bnd (x:=t) rfl ?_
        congr 1
        simp
        exact fun h=>hk (.inr h)
    · exact⟨false,is_miss h,fun h=>by cases h⟩
theorem P2 (r:Z0) (m:List UInt8) : ∃ b r',X3 r m=some (b,r')∧Af r r' (cond b 1 0):=by
  obtain⟨b,e,hb⟩:=Z1m r m;cases b with
  | true =>
    obtain⟨t,l,hl,ht,hk⟩:=hb rfl;obtain⟨rl,re,rd⟩:=r
    dsimp only at hl
    subst hl;exact⟨true,_,take_hit ht hk,by simp,fun x hx=>List.mem_cons_of_mem _ hx,rfl,rfl⟩
  | false =>
    refine⟨false,r,?_,Af.refl r⟩;unfold X3;exact bnd e rfl
theorem pos_any (r:Z0) : ∃ p,F3 r=some p:=by
  obtain⟨l,e,d⟩:=r;cases l with
  | nil=>exact⟨e,rfl⟩
  | cons t l=>exact⟨_,Y7n t l e d⟩
theorem Z8r {r:Z0} (hr:Rd r) : ∃ p,F3 r=some p∧Pn p:=by
  obtain⟨l,e,d⟩:=r;cases l with
  | nil=>exact⟨e,rfl,hr.te⟩
  | cons t l=>exact⟨_,Y7n t l e d,hr.tp t (by simp)⟩
theorem Z9h (r:Z0) (k:Int) : ∃ e,W8 r k=some (.error e):=by
  obtain⟨p,hp⟩:=pos_any r;exact⟨_,bnd hp rfl⟩
theorem D7 (r:Z0) (m:List UInt8):Ok (Y9 r m) (fun r' => Af r r' 1):=by
  obtain⟨b,r',e,h⟩:=P2 r m;unfold Y9;refine Ok.step e ?_;cases b with
  | true=>exact Ok.ok h
  | false =>
    obtain⟨x,hx⟩:=Z9h r' 3;exact Ok.step hx Ok.err
theorem Y2f (r:Z0) (k:Int):Ok (C9 r k) (fun x=>(x.1 ∈ r.l∧x.1.Kind=k)∧Af r x.2 1):=by
  obtain⟨l,e,d⟩:=r;cases l with
  | nil =>
    unfold C9 jn
    dsimp only
    obtain⟨x,hx⟩:=Z9h ⟨[],e,d⟩ 3;rw [c1 (show ((List.length ([]:List V0):Int) == 0)=true from rfl)];exact Ok.step hx Ok.err
  | cons t l =>
    by_cases h:t.Kind=k
    · rw [kind_hit h];exact Ok.ok ⟨⟨by simp,h⟩,by simp,fun x hx=>List.mem_cons_of_mem _ hx,rfl,rfl⟩
    · unfold C9 jn
      dsimp only
      rw [c0 lz];refine Ok.step (x:=t) rfl ?_;rw [c1 (by simpa using h)];obtain⟨x,hx⟩:=Z9h ⟨t::l,e,d⟩ 3;exact Ok.step hx Ok.err
theorem Z2b {r:Z0} (hr:Rd r):Ok (J8 r) (fun x=>x.1.length≤70000∧Af r x.2 1∧x.1 ≠ outW):=by
  unfold J8;exact(Y2f r 1).bind fun x hx=>Ok.ok ⟨hr.tx _ hx.1.1,hx.2,hr.tn _ hx.1.1 hx.1.2⟩
theorem Z6q {r:Z0} (hr:Rd r):Ok (N8 r) (fun r' => r'.l=r.l∧r'.depth=r.depth+1∧r.depth < 200∧r'.end_=r.end_):=by
  obtain⟨l,e,d⟩:=r;have hd:=hr.d
  dsimp only at hd
  by_cases h:d=200
  · subst h;unfold N8 jn
    dsimp only
    rw [c1 (show ((200:Int) == 200)=true from rfl)];obtain⟨x,hx⟩:=Z9h ⟨l,e,200⟩ 2;exact Ok.step hx Ok.err
  · rw [X2n hd.1 (by omega)];exact Ok.ok ⟨rfl,rfl,by dsimp only; omega,rfl⟩
theorem Z5m {r:Z0} (hr:Rd r) : ∃ m,E7 r=some m∧m.length≤70000∧(m ≠ []→r.l ≠ []):=by
  obtain⟨l,e,d⟩:=r;cases l with
  | nil=>exact⟨[],rfl,by simp,fun h=>absurd rfl h⟩
  | cons t l =>
    by_cases h:t.Kind=4
    · exact⟨_,mark_hit h,hr.tx t (by simp),fun _=>by simp⟩
    · exact⟨_,X2f h,by simp,fun _=>by simp⟩
theorem Q6p {r:Z0} (hr:Rd r) (k:Int) (hl:r.l ≠ []) : ∃ p o r',K8 r k=some (⟨k,p,o,[],0,⟨[],[],0⟩,[]⟩,r')∧o.length≤70000∧Af r r' 1∧Pn p∧E7 r=some o:=by
  obtain⟨l,e,d⟩:=r;cases l with
  | nil=>exact absurd rfl hl
  | cons t l =>
    obtain⟨m,hm,hml,_⟩:=Z5m hr;refine⟨t.Pos,m,⟨l,e,d⟩,?_,hml,⟨by simp,fun x hx=>List.mem_cons_of_mem _ hx,rfl,rfl⟩,hr.tp t (by simp),hm⟩;unfold K8;exact bnd (Y7n t l e d) (bnd hm (bnd (Y1m t l) rfl))
def Rn {Z:Type} (y:Option Z) (P:Z→Prop):Prop := ∃ z,y=some z∧P z
theorem Rn.ok {Z:Type} {z:Z} {P:Z→Prop} (h:P z):Rn (some z) P:=⟨z,rfl,h⟩
theorem Rn.step {Z B:Type} {m:Option B} {x:B} {f:B→Option Z} {P:Z→Prop} (h:m=some x) (k:Rn (f x) P):Rn (m.bind f) P:=by subst h; exact k
theorem Rn.bind {E A S R:Type} {y:Option (Except E A)} {p:A→Prop} {f:A→Option (Lp S R)} {g:E→R} {P:Lp S R→Prop} (h:Ok y p) (hf : ∀ x,p x→Rn (f x) P) (hg : ∀ e,P (.ret (g e))):Rn (y.bind fun z=>exC z (fun z=>f z) (fun e=>some (Lp.ret (g e)))) P:=by
  obtain⟨z,ez,hz⟩:=h;rw [ez,Option.bind_some];cases z with
  | error x=>exact⟨_,rfl,hg x⟩
  | ok x=>exact hf x hz
def NxR {S R E A:Type} (I:S→Prop) (μ : S→Nat) (s:S) (f:Lp S R→Option (Except E A)) (q:A→Prop):Lp S R→Prop
  | .go s' => I s' ∧ μ s' < μ s
  | .brk s' => Ok (f (.brk s')) q
  | .ret r=>Ok (f (.ret r)) q
theorem Ok.loop {S R E A:Type} {body:S→Option (Lp S R)} {f:Lp S R→Option (Except E A)} {q:A→Prop} {s:S} (I:S→Prop) (μ : S→Nat) (hI:I s) (hn : μ s < 1000000) (hs : ∀ s,I s→Rn (body s) (NxR I μ s f q)):Ok ((loopM body NN s).bind f) q:=by
  obtain⟨o,ho,hp⟩:=Q3b I μ (fun o=>Ok (f o) q) hI (Q9u (by omega)) (fun s h=>by
    obtain⟨z,e,hz⟩:=hs s h;exact⟨z,e,by cases z <;> exact hz⟩)
  exact Ok.step ho hp
theorem Y6e (r:Z0) : ∃ b,Q1q r=some b∧(b=true→r.l ≠ []):=by
  have ne : ∀ {m:List UInt8} {b:Bool},(b=true → ∃ t l,r.l=t::l∧t.Text=m∧(t.Kind=2 ∨ t.Kind=4))→b=true→r.l ≠ []:=by
    intro m b h hb;obtain⟨t,l,e,_⟩:=h hb;rw [e]; simp
  unfold Q1q;obtain⟨b1,e1,h1⟩:=Z1m r [105,110,116];rw [e1,Option.bind_some];cases b1 with
  | true=>exact⟨true,rfl,ne h1⟩
  | false =>
    obtain⟨b2,e2,h2⟩:=Z1m r [99,104,97,114];refine(c0 (by rfl)).symm ▸ ?_;rw [e2,Option.bind_some];cases b2 with
    | true=>exact⟨true,rfl,ne h2⟩
    | false =>
      obtain⟨b3,e3,h3⟩:=Z1m r [118,111,105,100];refine(c0 (by rfl)).symm ▸ ?_;rw [e3,Option.bind_some];cases b3 with
      | true=>exact⟨true,rfl,ne h3⟩
      | false =>
        obtain⟨b4,e4,h4⟩:=Z1m r [115,116,114,117,99,116];exact⟨b4,bnd e4 rfl,ne h4⟩
theorem Z0f {r:Z0} (hr:Rd r):Ok (G6 r) (fun x=>OkT x.1∧Af r x.2 (1+x.1.Stars.toNat)):=by
  obtain⟨l,e,d⟩:=r;unfold G6
  dsimp only [jn]
  obtain⟨b,eb,hb⟩:=Y6e ⟨l,e,d⟩;rw [eb,Option.bind_some];cases b with
  | false =>
    obtain⟨x,hx⟩:=Z9h ⟨l,e,d⟩ 3;exact Ok.step hx Ok.err
  | true =>
    cases l with
    | nil=>exact absurd rfl (hb rfl)
    | cons t l =>
      have hl:=hr.len
      simp only [List.length_cons] at hl
      have ht:=hr.tx t (by simp);have h1:Af ⟨t::l,e,d⟩ ⟨l,e,d⟩ 1:=⟨by simp,fun x hx=>List.mem_cons_of_mem _ hx,rfl,rfl⟩
      have key : ∀(x1:B3) (x2:Z0),x1.Word.length≤70000→x1.Name.length≤70000→x1.Stars=0→Af ⟨t::l,e,d⟩ x2 1 →
          Ok ((loopM (fun(x3,x4)=>((X3 x4 ([42]:List UInt8)).bind fun y4=>bif y4.1 then (some (Lp.go ({x3 with Stars:=IntKind.wrap .i64 (x3.Stars+1)},y4.2))) else (some (Lp.brk (x3,y4.2))):Option (Lp (B3×Z0) (Unit)))) NN (x1,x2)).bind fun o=>o.thn (fun(x3,x4)=>some (Except.ok (ε := Y0×Z0) (x3,x4))) (fun _=>none)) (fun x=>OkT x.1∧Af ⟨t::l,e,d⟩ x.2 (1+x.1.Stars.toNat)):=by
        intro x1 x2 hw hn hs ha;refine Ok.loop (fun s=>s.1.Word.length≤70000∧s.1.Name.length≤70000∧0≤s.1.Stars∧Af ⟨t::l,e,d⟩ s.2 (1+s.1.Stars.toNat)) (fun s=>s.2.l.length) ⟨hw,hn,by dsimp only; omega,by dsimp only; rw [hs]; exact ha⟩ (by have:=ha.len; simp only [List.length_cons] at this; dsimp only; omega) ?_;rintro⟨x3,x4⟩ ⟨i1,i2,i3,i4⟩
        dsimp only at i1 i2 i3 i4 ⊢
        have i4l:=i4.len
        simp only [List.length_cons] at i4l
        obtain⟨b,r',eb,hb⟩:=P2 x4 [42];refine Rn.step eb ?_;cases b with
        | true =>
          have hbl:=hb.len
          dsimp only [cond_true] at hbl
          refine Rn.ok ⟨⟨i1,i2,?_,?_⟩,by dsimp only; omega⟩
          · dsimp only
            rw [w64 (by omega)]; omega
          · dsimp only
            rw [w64 (by omega)];refine(i4.trans hb).mono ?_
            dsimp only [cond_true]
            omega
        | false =>
          refine Rn.ok (Ok.ok ⟨⟨i1,i2,by dsimp only; omega⟩,(i4.trans hb).mono (by dsimp only; omega)⟩)
      refine(c0 (by rfl)).symm ▸ ?_;refine Ok.step (x:=t) rfl ?_;refine Ok.step (Y1m t l) ?_
      by_cases hst:t.Text = [115,116,114,117,99,116]
      · rw [c1 (dt hst)];refine(Z2b (hr.after h1)).bind fun x hx=>key _ _ ht hx.1 rfl ((h1.trans hx.2.1).mono (by omega))
      · rw [c0 (df hst)];exact key _ _ ht (by simp) rfl h1
theorem Y9m {r:Z0} (hr:Rd r):Ok (Q3a r) (fun x=>Af r x.2 x.1.length):=by
  unfold Q3a;refine Ok.loop (fun s=>Af r s.2 s.1.length) (fun s=>s.2.l.length) ((Af.refl r).mono (by simp)) (by have:=hr.len; dsimp only; omega) ?_;rintro⟨x1,x2⟩ h
  dsimp only at h ⊢
  have hl:=hr.len;have h2:=h.len;obtain⟨b,r1,eb,hb⟩:=P2 x2 [91];refine Rn.step eb ?_;cases b with
  | false=>exact Rn.ok (Ok.ok ((h.trans hb).mono (by dsimp only; omega)))
  | true =>
    dsimp only [cond_true] at hb ⊢
    refine Rn.bind (Y2f r1 3) (fun x hx => ?_) (fun e=>Ok.err);refine Rn.step (P4 (by simp; omega)) ?_;refine Rn.bind (D7 x.2 [93]) (fun y hy => ?_) (fun e=>Ok.err);have ha:=((h.trans hb).trans hx.2).trans hy;have:=hb.len; have:=hx.2.len; have:=hy.len;refine Rn.ok ⟨ha.mono (by simp),by dsimp only; omega⟩
def PE (r:Z0) (x:Z8×Z0):Prop:=OkE x.1∧Af r x.2 (wE x.1)
def PL (r:Z0) (k:Nat) (x:List Z8×Z0):Prop:=(∀ y ∈ x.1,OkE y)∧Af r x.2 (sm wE x.1+k)
def PL1 (r:Z0) (k:Nat) (x:List Z8×Z0):Prop:=PL r k x∧1≤x.1.length
structure S1 (n:Nat):Prop where
  bracketed : ∀ r,Rd r→10 * r.l.length+1≤n→Ok ((Q4s n).U9 r) (PL1 r 2)
  handed : ∀ r,Rd r→10 * r.l.length+1≤n→Ok ((Q4s n).E1 r) (PL r 2)
  prime : ∀ r,Rd r→10 * r.l.length+1≤n→Ok ((Q4s n).A2 r) (PE r)
  post : ∀ r,Rd r→10 * r.l.length+2≤n→Ok ((Q4s n).C8 r) (PE r)
  unary : ∀ r,Rd r→10 * r.l.length+3≤n→Ok ((Q4s n).F5 r) (PE r)
  binary : ∀ r k,Rd r→10 * r.l.length+4≤n→Ok ((Q4s n).E2 r k) (PE r)
  cond : ∀ r,Rd r→10 * r.l.length+5≤n→Ok ((Q4s n).B4 r) (PE r)
  assign : ∀ r,Rd r→10 * r.l.length+6≤n→Ok ((Q4s n).X5 r) (PE r)
theorem Rd.down {r r' : Z0} (hr:Rd r) (h:r'.l=r.l∧r'.depth=r.depth+1∧r.depth < 200∧r'.end_=r.end_):Rd r' := ⟨by rw [h.1]; exact hr.tx,by rw [h.1]; exact hr.len,by have:=hr.d; omega,by rw [h.1]; exact hr.tp,by rw [h.2.2.2]; exact hr.te,by rw [h.1]; exact hr.tn,by rw [h.1]; exact hr.tu⟩
theorem Af.up {r r' s:Z0} {k:Nat} (hr:Rd r) (h:r'.l=r.l∧r'.depth=r.depth+1∧r.depth < 200∧r'.end_=r.end_) (g:Af r' s k):Af r {s with depth:=IntKind.wrap .i64 (s.depth - 1)} k:=by
  have hd:=hr.d;have gd:=g.d;refine⟨by have:=g.len; rw [h.1] at this; exact this,fun t ht=>by have:=g.tk t ht; rw [h.1] at this; exact this,?_,g.en.trans h.2.2.2⟩
  dsimp only
  rw [w64 (by omega)];omega
theorem okT0:OkT ⟨[],[],0⟩:=⟨by simp,by simp,by decide⟩
theorem Y3p {k:Int} {p:Pos} {o n:List UInt8} {m:Int} {ks:List Z8} (hk : ∀ y ∈ ks,OkE y) (ho:o.length≤70000) (hn:n.length≤70000) (ha:Z2m k≤ks.length) (hx:Ex k p o n ks.length) (hm:U32 m:=by exact Z6c):OkE ⟨k,p,o,n,m,⟨[],[],0⟩,ks⟩ := .mk hk hn ho okT0 ha hx hm
theorem wEk {k:Int} {p:Pos} {o n:List UInt8} {m:Int} {ks:List Z8} : wE ⟨k,p,o,n,m,⟨[],[],0⟩,ks⟩=1+sm wE ks:=by rw [Y6d]; rfl
theorem sm1 (x:Z8):sm wE [x]=wE x:=by simp [sm]
theorem sm2 (x y:Z8):sm wE [x,y]=wE x+wE y:=by simp [sm]
theorem sm3 (x y z:Z8):sm wE [x,y,z]=wE x+wE y+wE z:=by simp [sm]; omega
theorem Y9x {n:Nat} (h:S1 n) : ∀ r,Rd r→10 * r.l.length+1≤n+1→Ok ((Q4s (n+1)).U9 r) (PL1 r 2):=by
  intro r hr hn;show Ok (W9 (Q4s n) r) _;unfold W9;refine(D7 r _).bind fun y1 a1 => ?_;have:=a1.len;refine(h.assign y1 (hr.after a1) (by omega)).bind fun y2 a2 => ?_;refine(D7 y2.2 _).bind fun y3 a3 => ?_;exact Ok.ok ⟨⟨by simpa using a2.1,((a1.trans a2.2).trans a3).mono (by dsimp only; rw [sm1]; omega)⟩,Nat.le_refl 1⟩
theorem handed_s {n:Nat} (h:S1 n) : ∀ r,Rd r→10 * r.l.length+1≤n+1→Ok ((Q4s (n+1)).E1 r) (PL r 2):=by
  intro r hr hn;show Ok (Q1k (Q4s n) r) _;unfold Q1k;refine(D7 r _).bind fun y1 a1 => ?_;have l1:=a1.len;have lr:=hr.len;obtain⟨b,y2,e2,a2⟩:=P2 y1 [41];refine Ok.step e2 ?_;cases b with
  | true=>exact Ok.ok ⟨by simp,(a1.trans a2).mono (by simp [sm])⟩
  | false =>
    have a12:=(a1.trans a2).mono (k:=1) (by simp);have l2:=a12.len;refine(h.assign y2 (hr.after a12) (by omega)).bind fun y3 a3 => ?_;have a13:=a12.trans a3.2;refine Ok.loop (fun s=>(∀ y ∈ s.1,OkE y)∧Af r s.2 (1+sm wE s.1)) (fun s=>s.2.l.length) ⟨by simpa using a3.1,by dsimp only; rw [sm1]; exact a13⟩ (by have:=a13.len; dsimp only; omega) ?_;rintro⟨x1,x2⟩ ⟨i1,i2⟩
    dsimp only at i1 i2 ⊢
    have li:=i2.len;have hx:=W6 Q2e x1;obtain⟨b,y4,e4,a4⟩:=P2 x2 [44];refine Rn.step e4 ?_;cases b with
    | false =>
      refine Rn.ok ?_;refine(D7 y4 _).bind fun y6 a6=>Ok.ok ⟨i1,((i2.trans a4).trans a6).mono (by simp; omega)⟩
    | true =>
      have a24:=i2.trans a4;have l4:=a4.len
      dsimp only [cond_true] at l4 a24
      refine Rn.bind (h.assign y4 (hr.after a24) (by omega)) (fun y5 a5 => ?_) (fun e=>Ok.err);refine Rn.step (P4 (by simp; omega)) ?_;have l5:=a5.2.len;refine Rn.ok ⟨⟨?_,(a24.trans a5.2).mono (by dsimp only; rw [Q1t,sm1]; omega)⟩,by dsimp only; omega⟩;intro y hy
      rcases List.mem_append.1 hy with hy | hy
      · exact i1 y hy
      · have:y=y5.1:=by simpa using hy
        rw [this]; exact a5.1
theorem assign_s {n:Nat} (h:S1 n) : ∀ r,Rd r→10 * r.l.length+6≤n+1→Ok ((Q4s (n+1)).X5 r) (PE r):=by
  intro r hr hn;show Ok (Q1m (Q4s n) r) _;unfold Q1m;refine(Z6q hr).bind fun y1 d1 => ?_;have hr1:=hr.down d1;refine Ok.bind (g:=fun e:Y0×Z0=>(e.1,{e.2 with depth:=IntKind.wrap .i64 (e.2.depth - 1)})) (h.cond y1 hr1 (by rw [d1.1]; omega)) fun y2 a2 => ?_;have hr2:=hr1.after a2.2;obtain⟨m,em,hm,hne⟩:=Z5m hr2;refine Ok.step em ?_
  obtain⟨b,eb,hb⟩ : ∃ b,Q8f m=some b∧(b=true→m ≠ []):=by
    by_cases h0:m = []
    · subst h0; exact⟨false,rfl,fun h=>by cases h⟩
    · have : ∃ b,Q8f m=some b:=by
        unfold Q8f
        dsimp only [jn]
        have key : ∀ b:Bool,∃ c,(bif b then some true else some false)=some c:=fun b=>by cases b <;> exact⟨_,rfl⟩
        iterate 10 (first | exact key _ | (refine(Bool.rec (motive:=fun c => ∃ d,(bif c then _ else _)=some d) ?_ ?_ _) <;> dsimp only [cond_true,cond_false]))
        all_goals exact key _
      obtain⟨b,hb⟩:=this;exact⟨b,hb,fun _=>h0⟩
  refine Ok.step eb ?_;cases b with
  | false=>exact Ok.ok ⟨a2.1,Af.up hr d1 a2.2⟩
  | true =>
    obtain⟨p,o,y5,e5,ho,a5,pp,pm⟩:=Q6p hr2 5 (hne (hb rfl));refine Ok.step e5 ?_;have l2:=a2.2.len;have l5:=a5.len;rw [d1.1] at l2;refine Ok.bind (g:=fun e:Y0×Z0=>(e.1,{e.2 with depth:=IntKind.wrap .i64 (e.2.depth - 1)})) (h.assign y5 (hr2.after a5) (by omega)) fun y6 a6 => ?_;refine Ok.ok ⟨Y3p (by simp [a2.1,a6.1]) ho (by simp) (show Z2m 5≤2 by decide) (show Ex 5 p o [] 2 from⟨pp,fun e=>absurd e (by decide),fun _ e0=>(hb rfl) (Option.some.inj (em.symm.trans (pm.trans (by rw [e0]))))⟩),?_⟩;have:=Af.up hr d1 ((a2.2.trans a5).trans a6.2);refine this.mono ?_
    dsimp only
    rw [wEk,sm2];omega
theorem rank_any (m:List UInt8) : ∃ k,Z3e m=some k∧(k ≠ 0→m ≠ []):=by
  by_cases h:m = []
  · subst h; exact⟨0,rfl,fun h=>absurd rfl h⟩
  · have : ∃ k,Z3e m=some k:=by
      unfold Z3e
      dsimp only [jn]
      cases decide (m=([124,124]:List UInt8))
      case true=>exact⟨_,rfl⟩
      cases decide (m=([38,38]:List UInt8))
      case true=>exact⟨_,rfl⟩
      cases decide (m=([124]:List UInt8))
      case true=>exact⟨_,rfl⟩
      cases decide (m=([94]:List UInt8))
      case true=>exact⟨_,rfl⟩
      cases decide (m=([38]:List UInt8))
      case true=>exact⟨_,rfl⟩
      cases decide (m=([61,61]:List UInt8))
      case true=>exact⟨_,rfl⟩
      cases decide (m=([33,61]:List UInt8))
      case true=>exact⟨_,rfl⟩
      cases decide (m=([60]:List UInt8))
      case true=>exact⟨_,rfl⟩
      cases decide (m=([62]:List UInt8))
      case true=>exact⟨_,rfl⟩
      cases decide (m=([60,61]:List UInt8))
      case true=>exact⟨_,rfl⟩
      cases decide (m=([62,61]:List UInt8))
      case true=>exact⟨_,rfl⟩
      cases decide (m=([60,60]:List UInt8))
      case true=>exact⟨_,rfl⟩
      cases decide (m=([62,62]:List UInt8))
      case true=>exact⟨_,rfl⟩
      cases decide (m=([43]:List UInt8))
      case true=>exact⟨_,rfl⟩
      cases decide (m=([45]:List UInt8))
      case true=>exact⟨_,rfl⟩
      cases decide (m=([42]:List UInt8))
      case true=>exact⟨_,rfl⟩
      cases decide (m=([47]:List UInt8))
      case true=>exact⟨_,rfl⟩
      cases decide (m=([37]:List UInt8)) <;> exact⟨_,rfl⟩
    obtain⟨k,hk⟩:=this;exact⟨k,hk,fun _=>h⟩
theorem cond_s {n:Nat} (h:S1 n) : ∀ r,Rd r→10 * r.l.length+5≤n+1→Ok ((Q4s (n+1)).B4 r) (PE r):=by
  intro r hr hn;show Ok (Q3g (Q4s n) r) _;unfold Q3g;refine(h.binary r 1 hr (by omega)).bind fun y1 a1 => ?_;have hr1:=hr.after a1.2;obtain⟨m,em,hm,hne⟩:=Z5m hr1;refine Ok.step em ?_
  by_cases h63:m = [63]
  · rw [c0 (by rw [dt h63]; rfl)];obtain⟨p,o,y3,e3,ho,a3,pp,pm⟩:=Q6p hr1 6 (hne (by rw [h63]; simp));refine Ok.step e3 ?_;have l1:=a1.2.len;have l3:=a3.len;have a13:=a1.2.trans a3;refine(h.assign y3 (hr1.after a3) (by omega)).bind fun y4 a4 => ?_;have a14:=a13.trans a4.2;refine(D7 y4.2 _).bind fun y5 a5 => ?_;have a15:=a14.trans a5;have hr5:=hr.after a15;have l5:=a15.len;refine(Z6q hr5).bind fun y6 d6 => ?_;have hr6:=hr5.down d6;refine(h.cond y6 hr6 (by rw [d6.1]; omega)).bind fun y7 a7 => ?_;have a57:=Af.up hr5 d6 a7.2;refine Ok.step (x := {y7.2 with depth:=IntKind.wrap .i64 (y7.2.depth - 1)}) rfl ?_;refine Ok.ok ⟨Y3p (by simp [a1.1,a4.1,a7.1]) (by simp) (by simp) (show Z2m 6≤3 by decide) (Ex.of (k:=6) pp (by decide) (by decide)),(a15.trans a57).mono ?_⟩
    dsimp only
    rw [wEk,sm3];omega
  · rw [c1 (by rw [df h63]; rfl)];exact Ok.ok a1
theorem binary_s {n:Nat} (h:S1 n) : ∀ r k,Rd r→10 * r.l.length+4≤n+1→Ok ((Q4s (n+1)).E2 r k) (PE r):=by
  intro r k hr hn;show Ok (Q1l (Q4s n) r k) _;unfold Q1l;have lr:=hr.len;refine(h.unary r hr (by omega)).bind fun y1 a1 => ?_;refine Ok.loop (fun s=>PE r s) (fun s=>s.2.l.length) a1 (by have:=a1.2.len; dsimp only; omega) ?_;rintro⟨x1,x2⟩ hp;have li:=hp.2.len
  dsimp only at li
  have hr2:=hr.after hp.2;obtain⟨m,em,hm,hne⟩:=Z5m hr2;obtain⟨q,eq,hq⟩:=rank_any m
  dsimp only at em ⊢
  refine Rn.step em ?_;refine Rn.step eq ?_
  by_cases h1:q < k
  · rw [c1 (dt h1)];exact Rn.ok (Ok.ok hp)
  rw [c0 (df h1)]
  by_cases h2:q=0
  · rw [c1 (by rw [h2]; rfl)];exact Rn.ok (Ok.ok hp)
  rw [c0 (by simpa using h2)];obtain⟨p,o,y4,e4,ho,a4,pp,pm⟩:=Q6p hr2 4 (hne (hq h2));refine Rn.step e4 ?_;have a24:=hp.2.trans a4;have l4:=a4.len
  dsimp only at l4
  refine Rn.bind (h.binary y4 _ (hr.after a24) (by omega)) (fun y5 a5 => ?_) (fun e=>Ok.err);have l5:=a5.2.len;refine Rn.ok ⟨⟨Y3p (by simp [hp.1,a5.1]) ho (by simp) (show Z2m 4≤2 by decide) (Ex.of (k:=4) pp (by decide) (by decide)),(a24.trans a5.2).mono ?_⟩,by dsimp only; omega⟩
  dsimp only
  rw [wEk,sm2];omega
theorem post_s {n:Nat} (h:S1 n) : ∀ r,Rd r→10 * r.l.length+2≤n+1→Ok ((Q4s (n+1)).C8 r) (PE r):=by
  intro r hr hn;show Ok (Q3e (Q4s n) r) _;unfold Q3e;have lr:=hr.len;refine(h.prime r hr (by omega)).bind fun y1 a1 => ?_;refine Ok.loop (fun s=>PE r s) (fun s=>s.2.l.length) a1 (by have:=a1.2.len; dsimp only; omega) ?_;rintro⟨x1,x2⟩ hp;have li:=hp.2.len
  dsimp only at li
  have hr2:=hr.after hp.2;have hx1:=Q2e x1;obtain⟨m,em,hm,hne⟩:=Z5m hr2
  dsimp only [jn] at em ⊢
  refine Rn.step em ?_
  by_cases h1:m = [91]
  · rw [c1 (dt h1)];obtain⟨p,o,y3,e3,ho,a3,pp,pm⟩:=Q6p hr2 8 (hne (by rw [h1]; simp));refine Rn.step e3 ?_;have a23:=hp.2.trans a3;have l3:=a3.len
    dsimp only at l3
    refine Rn.bind (h.assign y3 (hr.after a23) (by omega)) (fun y4 a4 => ?_) (fun e=>Ok.err);refine Rn.bind (D7 y4.2 _) (fun y5 a5 => ?_) (fun e=>Ok.err);have l4:=a4.2.len;have l5:=a5.len;refine Rn.ok ⟨⟨Y3p (by simp [hp.1,a4.1]) (by simp) (by simp) (show Z2m 8≤2 by decide) (Ex.of (k:=8) pp (by decide) (by decide)),((a23.trans a4.2).trans a5).mono ?_⟩,by dsimp only; omega⟩
    dsimp only
    rw [wEk,sm2];omega
  rw [c0 (df h1)]
  have dot:m ≠ []→Rn ((K8 x2 9).bind fun y6=>(J8 y6.2).bind fun y7=>exC y7 (fun y7=>some (Lp.go (({y6.1 with Name:=y7.1,Kids:=([x1]:List Z8)} : Z8),y7.2))) (fun e3=>some (Lp.ret (Except.error (e3.1,e3.2))))) (NxR (fun s=>PE r s) (fun s=>s.2.l.length) (x1,x2) (fun o=>o.thn (fun(x1,x2)=>none) (fun r=>some r)) (PE r)):=by
    intro hm;obtain⟨p,o,y6,e6,ho,a6,pp,pm⟩:=Q6p hr2 9 (hne hm);refine Rn.step e6 ?_;have a26:=hp.2.trans a6;refine Rn.bind (Z2b (hr.after a26)) (fun y7 a7 => ?_) (fun e=>Ok.err);have l6:=a6.len;have l7:=a7.2.1.len
    dsimp only at l6 l7
    refine Rn.ok ⟨⟨Y3p (by simp [hp.1]) ho a7.1 (show Z2m 9≤1 by decide) (Ex.of (k:=9) pp (by decide) (by decide)),(a26.trans a7.2.1).mono ?_⟩,by dsimp only; omega⟩
    dsimp only
    rw [wEk,sm1];omega
  have inc:m ≠ []→Rn ((K8 x2 11).bind fun y8=>some (Lp.go (({y8.1 with Kids:=([x1]:List Z8)} : Z8),y8.2))) (NxR (R:=Except (Y0×Z0) (Z8×Z0)) (fun s=>PE r s) (fun s=>s.2.l.length) (x1,x2) (fun o=>o.thn (fun(x1,x2)=>none) (fun r=>some r)) (PE r)):=by
    intro hm;obtain⟨p,o,y8,e8,ho,a8,pp,pm⟩:=Q6p hr2 11 (hne hm);refine Rn.step e8 ?_;have l8:=a8.len
    dsimp only at l8
    refine Rn.ok ⟨⟨Y3p (by simp [hp.1]) ho (by simp) (show Z2m 11≤1 by decide) (Ex.of (k:=11) pp (by decide) (by decide)),(hp.2.trans a8).mono ?_⟩,by dsimp only; omega⟩
    dsimp only
    rw [wEk,sm1];omega
  by_cases h2:m = [46]
  · rw [c1 (dt h2),c1 (dt h2)];exact dot (by rw [h2]; simp)
  rw [c0 (df h2)]
  by_cases h3:m = [45,62]
  · rw [c1 (dt h3)];exact dot (by rw [h3]; simp)
  rw [c0 (df h3)]
  by_cases h4:m = [43,43]
  · rw [c1 (dt h4),c1 (dt h4)];exact inc (by rw [h4]; simp)
  rw [c0 (df h4)]
  by_cases h5:m = [45,45]
  · rw [c1 (dt h5)];exact inc (by rw [h5]; simp)
  rw [c0 (df h5)];exact Rn.ok (Ok.ok hp)
theorem unary_s {n:Nat} (h:S1 n) : ∀ r,Rd r→10 * r.l.length+3≤n+1→Ok ((Q4s (n+1)).F5 r) (PE r):=by
  intro r hr hn;show Ok (Q2k (Q4s n) r) _;unfold Q2k;refine(Z6q hr).bind fun y1 d1 => ?_;have hr1:=hr.down d1;obtain⟨m,em,hm,hne⟩:=Z5m hr1;refine Ok.step em ?_
  dsimp only [jn]
  have l1:y1.l.length=r.l.length:=by rw [d1.1]
  have op : ∀ k:Int,(Z2m k≤1∧k ≠ 7∧k ≠ 5)→m ≠ []→Ok ((K8 y1 k).bind fun y3=>((Q4s n).F5 y3.2).bind fun y4=>exC y4 (fun y4=>some (Except.ok (ε := Y0×Z0) (({y3.1 with Kids:=([y4.1]:List Z8)} : Z8),{y4.2 with depth:=IntKind.wrap .i64 (y4.2.depth - 1)}))) (fun e1=>some (Except.error (e1.1,{e1.2 with depth:=IntKind.wrap .i64 (e1.2.depth - 1)})))) (PE r):=by
    intro k hk hm;obtain⟨p,o,y3,e3,ho,a3,pp,pm⟩:=Q6p hr1 k (hne hm);refine Ok.step e3 ?_;have l3:=a3.len;refine Ok.bind (g:=fun e:Y0×Z0=>(e.1,{e.2 with depth:=IntKind.wrap .i64 (e.2.depth - 1)})) (h.unary y3 (hr1.after a3) (by omega)) fun y4 a4 => ?_;refine Ok.ok ⟨Y3p (by simp [a4.1]) ho (by simp) hk.1 (Ex.of pp hk.2.1 hk.2.2),(Af.up hr d1 (a3.trans a4.2)).mono ?_⟩
    dsimp only
    rw [wEk,sm1];omega
  have rest:Ok ((F3 y1).bind fun y7=>(X3 y1 ([115,105,122,101,111,102]:List UInt8)).bind fun y8=>bif y8.1 then ((Y9 y8.2 ([40]:List UInt8)).bind fun y9=>exC y9 (fun y9=>(G6 y9).bind fun y10=>exC y10 (fun y10=>(Y9 y10.2 ([41]:List UInt8)).bind fun y11=>exC y11 (fun y11=>some (Except.ok (ε := Y0×Z0) ((⟨12,y7,([]:List UInt8),([]:List UInt8),0,y10.1,[]⟩:Z8),{y11 with depth:=IntKind.wrap .i64 (y11.depth - 1)}))) (fun e4=>some (Except.error (e4.1,{e4.2 with depth:=IntKind.wrap .i64 (e4.2.depth - 1)})))) (fun e3=>some (Except.error (e3.1,{e3.2 with depth:=IntKind.wrap .i64 (e3.2.depth - 1)})))) (fun e5=>some (Except.error (e5.1,{e5.2 with depth:=IntKind.wrap .i64 (e5.2.depth - 1)})))) else (((Q4s n).C8 y8.2).bind fun y12=>exC y12 (fun y12=>some (Except.ok (y12.1,{y12.2 with depth:=IntKind.wrap .i64 (y12.2.depth - 1)}))) (fun e6=>some (Except.error (e6.1,{e6.2 with depth:=IntKind.wrap .i64 (e6.2.depth - 1)}))))) (PE r):=by
    obtain⟨p,ep,pz⟩:=Z8r hr1;refine Ok.step ep ?_;obtain⟨b,y8,e8,a8⟩:=P2 y1 [115,105,122,101,111,102];refine Ok.step e8 ?_;have hr8:=hr1.after a8;have l8:=a8.len
    let g:Y0×Z0→Y0×Z0:=fun e=>(e.1,{e.2 with depth:=IntKind.wrap .i64 (e.2.depth - 1)})
    cases b with
    | true =>
      refine Ok.bind (g:=g) (D7 y8 _) fun y9 a9 => ?_;refine Ok.bind (g:=g) (Z0f (hr8.after a9)) fun y10 a10 => ?_;refine Ok.bind (g:=g) (D7 y10.2 _) fun y11 a11 => ?_;refine Ok.ok ⟨.mk (by simp) (by simp) (by simp) a10.1 (show Z2m 12≤0 by decide) (Ex.of (k:=12) pz (by decide) (by decide)) Z6c,(Af.up hr d1 (((a8.trans a9).trans a10.2).trans a11)).mono ?_⟩;rw [Y6d]
      simp [sm]
      omega
    | false =>
      refine Ok.bind (g:=g) (h.post y8 hr8 (by omega)) fun y12 a12 => ?_;exact Ok.ok ⟨a12.1,(Af.up hr d1 (a8.trans a12.2)).mono (by dsimp only; omega)⟩
  by_cases h1:m = [45]
  · rw [c1 (dt h1),c1 (dt h1)]; exact op 3 (by decide) (by rw [h1]; simp)
  rw [c0 (df h1)]
  by_cases h2:m = [126]
  · rw [c1 (dt h2),c1 (dt h2)]; exact op 3 (by decide) (by rw [h2]; simp)
  rw [c0 (df h2)]
  by_cases h3:m = [33]
  · rw [c1 (dt h3),c1 (dt h3)]; exact op 3 (by decide) (by rw [h3]; simp)
  rw [c0 (df h3)]
  by_cases h4:m = [42]
  · rw [c1 (dt h4),c1 (dt h4)]; exact op 3 (by decide) (by rw [h4]; simp)
  rw [c0 (df h4)]
  by_cases h5:m = [38]
  · rw [c1 (dt h5)]; exact op 3 (by decide) (by rw [h5]; simp)
  rw [c0 (df h5)]
  by_cases h6:m = [43,43]
  · rw [c1 (dt h6),c1 (dt h6)]; exact op 10 (by decide) (by rw [h6]; simp)
  rw [c0 (df h6)]
  by_cases h7:m = [45,45]
  · rw [c1 (dt h7)]; exact op 10 (by decide) (by rw [h7]; simp)
  rw [c0 (df h7)];exact rest
theorem prime_s {n:Nat} (h:S1 n) : ∀ r,Rd r→10 * r.l.length+1≤n+1→Ok ((Q4s (n+1)).A2 r) (PE r):=by
  intro r hr hn;show Ok (Q2l (Q4s n) r) _;unfold Q2l;obtain⟨p,ep,pz⟩:=Z8r hr;refine Ok.step ep ?_
  dsimp only [jn]
  have lr:=hr.len;obtain⟨b,y2,e2,a2⟩:=P2 r [40];refine Ok.step e2 ?_;have l2:=a2.len;cases b with
  | true =>
    dsimp only [cond_true] at a2 l2
    refine(h.assign y2 (hr.after a2) (by omega)).bind fun y3 a3 => ?_;refine(D7 y3.2 _).bind fun y4 a4 => ?_;exact Ok.ok ⟨a3.1,((a2.trans a3.2).trans a4).mono (by dsimp only; omega)⟩
  | false =>
  obtain⟨b,y5,e5,a5⟩:=P2 y2 [105,110];refine Ok.step e5 ?_;have a25:=a2.trans a5;have l5:=a5.len;cases b with
  | true =>
    refine(D7 y5 _).bind fun y6 a6 => ?_;refine(D7 y6 _).bind fun y7 a7 => ?_;exact Ok.ok ⟨Y3p (by simp) (by simp) (by simp) (show Z2m 7≤0 by decide) ⟨pz,fun _ e=>absurd e (by decide),fun e=>absurd e (by decide)⟩,((a25.trans a6).trans a7).mono (by dsimp only; rw [wEk]; simp [sm])⟩
  | false =>
  obtain⟨b,y8,e8,a8⟩:=P2 y5 [111,117,116];refine Ok.step e8 ?_;have a28:=a25.trans a8;have l8:=a8.len;have hr8:=hr.after a28;cases b with
  | true =>
    dsimp only [cond_true] at l8
    refine(h.bracketed y8 hr8 (by dsimp only [cond_false] at l2 l5; omega)).bind fun y9 a9 => ?_;exact Ok.ok ⟨Y3p a9.1.1 (by simp) (by simp) (show Z2m 7≤_ from Nat.zero_le _) ⟨pz,fun _ _=>a9.2,fun e=>absurd e (by decide)⟩,(a28.trans a9.1.2).mono (by dsimp only; rw [wEk]; dsimp only [cond_false]; omega)⟩
  | false =>
  have nm:Ok ((J8 y8).bind fun y11=>exC y11 (fun y11=>(V7 y11.2 ([40]:List UInt8)).bind fun y12=>bif y12 then (((Q4s n).E1 y11.2).bind fun y13=>exC y13 (fun y13=>some (Except.ok (ε := Y0×Z0) ((⟨7,p,([]:List UInt8),y11.1,0,(⟨([]:List UInt8),([]:List UInt8),0⟩:B3),y13.1⟩:Z8),y13.2))) (fun e7=>some (Except.error (e7.1,e7.2)))) else (some (Except.ok ((⟨2,p,([]:List UInt8),y11.1,0,(⟨([]:List UInt8),([]:List UInt8),0⟩:B3),[]⟩:Z8),y11.2)))) (fun e8=>some (Except.error (e8.1,e8.2)))) (PE r):=by
    refine(Z2b hr8).bind fun y11 a11 => ?_;obtain⟨b,e12,_⟩:=Z1m y11.2 [40];refine Ok.step e12 ?_;have l11:=a11.2.1.len;cases b with
    | true =>
      refine(h.handed y11.2 (hr8.after a11.2.1) (by dsimp only [cond_false] at l2 l5 l8; omega)).bind fun y13 a13 => ?_;exact Ok.ok ⟨Y3p a13.1 (by simp) a11.1 (show Z2m 7≤_ from Nat.zero_le _) ⟨pz,fun _ e=>absurd e a11.2.2,fun e=>absurd e (by decide)⟩,((a28.trans a11.2.1).trans a13.2).mono (by dsimp only; rw [wEk]; dsimp only [cond_false]; omega)⟩
    | false=>exact Ok.ok ⟨Y3p (by simp) (by simp) a11.1 (show Z2m 2≤0 by decide) (Ex.of (k:=2) pz (by decide) (by decide)),(a28.trans a11.2.1).mono (by dsimp only; rw [wEk]; simp [sm])⟩
  cases hl:y8.l with
  | nil =>
    rw [c0 (df (by simp))];exact nm
  | cons t l =>
    rw [c1 (dt (by simp only [List.length_cons]; omega))]
    dsimp only [cond_false]
    refine Ok.step (x:=t) rfl ?_
    by_cases hk:t.Kind=3
    · rw [c1 (by rw [hk]; rfl)];refine(Y2f y8 3).bind fun y10 a10 => ?_;exact Ok.ok ⟨Y3p (by simp) (by simp) (by simp) (show Z2m 1≤0 by decide) (Ex.of (k:=1) pz (by decide) (by decide)) (hr8.tu _ a10.1.1),(a28.trans a10.2).mono (by dsimp only; rw [wEk]; simp [sm])⟩
    · rw [c0 (by simpa using hk)];exact nm
theorem rdS1 : ∀ n,S1 n
  | 0=>⟨fun r _ h=>by omega,fun r _ h=>by omega,fun r _ h=>by omega,fun r _ h=>by omega,fun r _ h=>by omega,fun r k _ h=>by omega,fun r _ h=>by omega,fun r _ h=>by omega⟩
  | n+1=>⟨Y9x (rdS1 n),handed_s (rdS1 n),prime_s (rdS1 n),post_s (rdS1 n),unary_s (rdS1 n),binary_s (rdS1 n),cond_s (rdS1 n),assign_s (rdS1 n)⟩
theorem Z6z {r:Z0} (hr:Rd r):Ok (X5 r) (PE r):=(rdS1 NN).assign r hr (by have:=hr.len; unfold NN; omega)
theorem Z1u {r:Z0} (hr:Rd r):Ok (U9 r) (PL1 r 2):=(rdS1 NN).bracketed r hr (by have:=hr.len; unfold NN; omega)
theorem Y5o {r:Z0} (hr:Rd r) {v:F2} (ht:OkT v.Type_) (hn:v.Name.length≤70000) (hp:Pn v.Pos):Ok (O1 r v) (fun x=>OkV x.1∧x.1.Type_=v.Type_∧Af r x.2 (x.1.Dims.length+sm wE x.1.Init+1)):=by
  unfold O1;have lr:=hr.len;refine(Y9m hr).bind fun y1 a1 => ?_
  dsimp only [jn]
  have fin : ∀(x3:F2) (x4:Z0),OkV x3→x3.Type_=v.Type_→Af r x4 (x3.Dims.length+sm wE x3.Init)→Ok ((Y9 x4 ([59]:List UInt8)).bind fun y10=>exC y10 (fun y10=>some (Except.ok (ε := Y0×Z0) (x3,y10))) (fun e6=>some (Except.error (e6.1,e6.2)))) (fun x=>OkV x.1∧x.1.Type_=v.Type_∧Af r x.2 (x.1.Dims.length+sm wE x.1.Init+1)):=by
    intro x3 x4 h1 h2 h3;exact(D7 x4 _).bind fun y a=>Ok.ok ⟨h1,h2,h3.trans a⟩
  obtain⟨b,y2,e2,a2⟩:=P2 y1.2 [61];refine Ok.step e2 ?_;have a12:=a1.trans a2;cases b with
  | false=>exact fin _ _ ⟨hn,ht,by simp,hp,fun _=>by simp⟩ rfl (a12.mono (by simp [sm]))
  | true =>
    obtain⟨c,y3,e3,a3⟩:=P2 y2 [123]
    dsimp only [cond_true]
    refine Ok.step e3 ?_;have a13:=a12.trans a3;refine(Z6z (hr.after a13)).bind fun y4 a4 => ?_;refine Ok.step (P4 (by simp)) ?_;have a14:=a13.trans a4.2;refine Ok.loop (fun s=>OkV s.1∧s.1.Type_=v.Type_∧Af r s.2 (s.1.Dims.length+sm wE s.1.Init)) (fun s=>s.2.l.length) ⟨⟨hn,ht,by simpa using a4.1,hp,fun _=>by simp⟩,rfl,a14.mono (by dsimp only; rw [List.nil_append,sm1]; omega)⟩ (by have:=a14.len; dsimp only; omega) ?_;rintro⟨x7,x8⟩ ⟨i1,i2,i3⟩
    dsimp only at i1 i2 i3 ⊢
    have li:=i3.len;have hx:=W6 Q2e x7.Init
    have stop : ∀ y5,Af r y5 (x7.Dims.length+sm wE x7.Init)→Ok (bif x7.Brace then ((Y9 y5 ([125]:List UInt8)).bind fun y7=>exC y7 (fun y7=>(Y9 y7 ([59]:List UInt8)).bind fun y10=>exC y10 (fun y10=>some (Except.ok (ε := Y0×Z0) (x7,y10))) (fun e6=>some (Except.error (e6.1,e6.2)))) (fun e2=>some (Except.error (e2.1,e2.2)))) else ((Y9 y5 ([59]:List UInt8)).bind fun y10=>exC y10 (fun y10=>some (Except.ok (ε := Y0×Z0) (x7,y10))) (fun e6=>some (Except.error (e6.1,e6.2))))) (fun x=>OkV x.1∧x.1.Type_=v.Type_∧Af r x.2 (x.1.Dims.length+sm wE x.1.Init+1)):=by
      intro y5 h5;cases x7.Brace with
      | true=>exact(D7 y5 _).bind fun y7 a7=>fin _ _ i1 i2 ((h5.trans a7).mono (by omega))
      | false=>exact fin _ _ i1 i2 h5
    cases hb:x7.Brace with
    | false =>
      refine Rn.ok ?_;have:=stop x8 i3;rw [hb] at this
      dsimp only [NxR,Lp.thn]
      rw [hb];exact this
    | true =>
      obtain⟨b,y5,e5,a5⟩:=P2 x8 [44]
      dsimp only [cond_true]
      refine Rn.step e5 ?_;have a35:=i3.trans a5;have l5:=a5.len;cases b with
      | false =>
        refine Rn.ok ?_;have:=stop y5 (a35.mono (by omega));rw [hb] at this
        dsimp only [NxR,Lp.thn]
        rw [hb];exact this
      | true =>
        dsimp only [cond_true] at l5
        refine Rn.bind (Z6z (hr.after a35)) (fun y6 a6 => ?_) (fun e=>Ok.err);refine Rn.step (P4 (by simp; omega)) ?_;have l6:=a6.2.len
        dsimp only at l6
        refine Rn.ok ⟨⟨⟨i1.name,i1.ty,?_,i1.pos,fun e=>by cases e⟩,i2,(a35.trans a6.2).mono (by dsimp only [cond_true]; rw [Q1t,sm1]; omega)⟩,by dsimp only; omega⟩;intro y hy
        rcases List.mem_append.1 hy with hy | hy
        · exact i1.init y hy
        · have:y=y6.1:=by simpa using hy
          rw [this]; exact a6.1
theorem Y7e {r:Z0} (hr:Rd r):Ok (Q1j r) (fun x=>OkV x.1∧Af r x.2 (wV x.1+2)):=by
  unfold Q1j;obtain⟨p,ep,pz⟩:=Z8r hr;refine Ok.step ep ?_;refine(Z0f hr).bind fun y2 a2 => ?_;refine(Z2b (hr.after a2.2)).bind fun y3 a3 => ?_;have a23:=a2.2.trans a3.2.1;refine(Y5o (hr.after a23) (v:=⟨p,y2.1,y3.1,[],[],false⟩) a2.1 a3.1 pz).bind fun y4 a4 => ?_;refine Ok.ok ⟨a4.1,(a23.trans a4.2.2).mono ?_⟩;have h:wV y4.1=1+y4.1.Type_.Stars.toNat+y4.1.Dims.length+sm wE y4.1.Init:=rfl
  dsimp only
  rw [h,a4.2.1]
  dsimp only
  omega
theorem Y9a (r:Z0) (k:Nat) (m:List UInt8) : ∃ b,I7 r (k:Int) m=some b:=by
  unfold I7
  by_cases h:k < r.l.length
  · rw [c1 (dlt h),B6 h,Option.bind_some]
    by_cases ht:r.l[k].Text=m
    · rw [c1 (dt ht),Option.bind_some];cases(r.l[k].Kind == 2) <;> exact⟨_,rfl⟩
    · rw [c0 (df ht)];exact⟨_,rfl⟩
  · rw [c0 (df (by omega))];exact⟨_,rfl⟩
theorem wV0 {p:Pos} {t:B3} {s:List UInt8} {b:Bool} {d:List Int} : wV ⟨p,t,s,d,[],b⟩=1+t.Stars.toNat+d.length:=rfl
theorem X0m {r:Z0} (hr:Rd r):Ok (W5 r) (fun x=>(∀ v ∈ x.1,OkV v)∧Af r x.2 (sm wV x.1+2)):=by
  unfold W5;have lr:=hr.len;refine(D7 r _).bind fun y1 a1 => ?_
  dsimp only [jn]
  have key : ∀ x1,Af r x1 1→Ok ((X3 x1 ([41]:List UInt8)).bind fun y5=>bif y5.1 then (some (Except.ok ([],y5.2))) else ((loopM (fun(x2,x3)=>((F3 x3).bind fun y6=>(G6 x3).bind fun y7=>exC y7 (fun y7=>(J8 y7.2).bind fun y8=>exC y8 (fun y8=>(S0 (List.length x2+List.length ([(⟨y6,y7.1,y8.1,[],[],false⟩:F2)]:List F2))).bind fun _=>(X3 y8.2 ([44]:List UInt8)).bind fun y9=>bif !y9.1 then ((Y9 y9.2 ([41]:List UInt8)).bind fun y10=>exC y10 (fun y10=>some (Lp.ret (Except.ok (x2++([(⟨y6,y7.1,y8.1,[],[],false⟩:F2)]:List F2),y10)))) (fun e2=>some (Lp.ret (Except.error (e2.1,e2.2))))) else (some (Lp.go (x2++([(⟨y6,y7.1,y8.1,[],[],false⟩:F2)]:List F2),y9.2)))) (fun e3=>some (Lp.ret (Except.error (e3.1,e3.2))))) (fun e4=>some (Lp.ret (Except.error (e4.1,e4.2)))):Option (Lp ((List F2)×Z0) (Except (Y0×Z0) ((List F2)×Z0))))) NN ([],y5.2)).bind fun o=>o.thn (fun(x2,x3)=>none) (fun r=>some r))) (fun x=>(∀ v ∈ x.1,OkV v)∧Af r x.2 (sm wV x.1+2)):=by
    intro x1 h1;obtain⟨b,y5,e5,a5⟩:=P2 x1 [41];refine Ok.step e5 ?_;have a15:=h1.trans a5;cases b with
    | true=>exact Ok.ok ⟨by simp,a15.mono (by simp [sm])⟩
    | false =>
      refine Ok.loop (fun s=>(∀ v ∈ s.1,OkV v)∧Af r s.2 (sm wV s.1+1)) (fun s=>s.2.l.length) ⟨by simp,a15.mono (by simp [sm])⟩ (by have:=a15.len; dsimp only; omega) ?_;rintro⟨x2,x3⟩ ⟨i1,i2⟩
      dsimp only at i1 i2 ⊢
      have li:=i2.len;have hx:=W6 Z6b x2;obtain⟨p,ep,pz⟩:=Z8r (hr.after i2);refine Rn.step ep ?_;refine Rn.bind (Z0f (hr.after i2)) (fun y7 a7 => ?_) (fun e=>Ok.err);have a37:=i2.trans a7.2;refine Rn.bind (Z2b (hr.after a37)) (fun y8 a8 => ?_) (fun e=>Ok.err);have a38:=a37.trans a8.2.1;refine Rn.step (P4 (by simp; omega)) ?_;obtain⟨b,y9,e9,a9⟩:=P2 y8.2 [44];refine Rn.step e9 ?_;have a39:=a38.trans a9
      have hv : ∀ v ∈ x2 ++ [(⟨p,y7.1,y8.1,[],[],false⟩:F2)],OkV v:=by
        intro v hv
        rcases List.mem_append.1 hv with hv | hv
        · exact i1 v hv
        · have:v=⟨p,y7.1,y8.1,[],[],false⟩:=by simpa using hv
          rw [this];exact⟨a8.1,a7.1,by simp,pz,fun _=>by simp⟩
      have hw:sm wV (x2 ++ [(⟨p,y7.1,y8.1,[],[],false⟩:F2)])=sm wV x2+(1+y7.1.Stars.toNat):=by
        rw [Q1t,Q7k,wV0]
        simp [sm]
      have l7:=a7.2.len;have l8:=a8.2.1.len;have l9:=a9.len;cases b with
      | false =>
        refine Rn.bind (D7 y9 _) (fun y10 a10 => ?_) (fun e=>Ok.err);exact Rn.ok (Ok.ok ⟨hv,(a39.trans a10).mono (by dsimp only; rw [hw]; dsimp only [cond_false]; omega)⟩)
      | true =>
        exact Rn.ok ⟨⟨hv,a39.mono (by dsimp only; rw [hw]; dsimp only [cond_true]; omega)⟩,by dsimp only [cond_true] at l9 ⊢; omega⟩
  obtain⟨b,e2,_⟩:=Z1m y1 [118,111,105,100];refine Ok.step e2 ?_;cases b with
  | false=>exact key y1 a1
  | true =>
    obtain⟨c,e3⟩:=Y9a y1 1 [41];refine Ok.step e3 ?_;cases c with
    | false=>exact key y1 a1
    | true=>exact(D7 y1 _).bind fun y4 a4=>key y4 ((a1.trans a4).mono (by omega))
theorem X0t {r:Z0} (hr:Rd r):Ok (Q3f r) (fun x=>(∀ v ∈ x.1,OkV v)∧Af r x.2 (sm wV x.1+3)):=by
  unfold Q3f;have lr:=hr.len;refine(D7 r _).bind fun y1 a1 => ?_;refine Ok.loop (fun s=>(∀ v ∈ s.1,OkV v)∧Af r s.2 (sm wV s.1+1)) (fun s=>s.2.l.length) ⟨by simp,a1.mono (by simp [sm])⟩ (by have:=a1.len; dsimp only; omega) ?_;rintro⟨x1,x2⟩ ⟨i1,i2⟩
  dsimp only at i1 i2 ⊢
  have li:=i2.len;have hx:=W6 Z6b x1;obtain⟨b,y2,e2,a2⟩:=P2 x2 [125];refine Rn.step e2 ?_;have a12:=i2.trans a2;have l2:=a12.len;cases b with
  | true =>
    dsimp only [cond_true,cond_false,Bool.not_true] at a12 ⊢
    refine Rn.ok ?_;refine(D7 y2 _).bind fun y8 a8=>Ok.ok ⟨i1,(a12.trans a8).mono (by dsimp only; omega)⟩
  | false =>
    dsimp only [cond_true,cond_false,Bool.not_false] at a12 l2 ⊢
    obtain⟨p,ep,pz⟩:=Z8r (hr.after a12);refine Rn.step ep ?_;refine Rn.bind (Z0f (hr.after a12)) (fun y4 a4 => ?_) (fun e=>Ok.err);have a24:=a12.trans a4.2;refine Rn.bind (Z2b (hr.after a24)) (fun y5 a5 => ?_) (fun e=>Ok.err);have a25:=a24.trans a5.2.1;refine Rn.bind (Y9m (hr.after a25)) (fun y6 a6 => ?_) (fun e=>Ok.err);have a26:=a25.trans a6;refine Rn.bind (D7 y6.2 _) (fun y7 a7 => ?_) (fun e=>Ok.err);have a27:=a26.trans a7;have l7:=a27.len;have l3:=a2.len;have l4:=a4.2.len;have l5:=a5.2.1.len;have l6:=a6.len;have l8:=a7.len;refine Rn.step (P4 (by simp; omega)) ?_;refine Rn.ok ⟨⟨?_,a27.mono ?_⟩,by dsimp only at *; omega⟩
    · intro v hv
      rcases List.mem_append.1 hv with hv | hv
      · exact i1 v hv
      · have:v=⟨p,y4.1,y5.1,y6.1,[],false⟩:=by simpa using hv
        rw [this];exact⟨a5.1,a4.1,by simp,pz,fun _=>by simp⟩
    · dsimp only
      rw [Q1t,Q7k,wV0]
      simp only [sm,List.map_nil,List.sum_nil]
      omega
theorem Z4l {r:Z0} (hr:Rd r) (m:List UInt8):Ok (L1 r m) (PL r 1):=by
  unfold L1;obtain⟨b,y1,e1,a1⟩:=P2 r m;refine Ok.step e1 ?_;cases b with
  | true=>exact Ok.ok ⟨by simp,a1.mono (by simp [sm])⟩
  | false =>
    refine(Z6z (hr.after a1)).bind fun y2 a2 => ?_;refine(D7 y2.2 _).bind fun y3 a3 => ?_;exact Ok.ok ⟨by simpa using a2.1,((a1.trans a2.2).trans a3).mono (by dsimp only; rw [sm1]; omega)⟩
theorem okS {k:Int} {p:Pos} {A B C:List Z8} {V:List F2} {S E:List U0} {D:List E8} (a : ∀ y ∈ A,OkE y) (b : ∀ y ∈ B,OkE y) (c : ∀ y ∈ C,OkE y) (v : ∀ y ∈ V,OkV y) (s : ∀ y ∈ S,OkS y) (e : ∀ y ∈ E,OkS y) (d : ∀ c ∈ D,∀ y ∈ c.Body,OkS y) (sp:Pn p) (sa:Sa k A.length V.length) (cp : ∀ c ∈ D,Pn c.Pos):OkS ⟨k,p,A,B,C,V,S,E,D⟩ := .mk a b c v s e d sp sa cp
theorem Sa.a {k:Int} {a v:Nat} (h:1≤a) (h2:k ≠ 2):Sa k a v:=⟨fun _=>h,fun e=>absurd e h2⟩
theorem Sa.n {k:Int} {a v:Nat} (h : ¬ (k=1 ∨ k=3 ∨ k=4 ∨ k=5 ∨ k=7)) (h2:k ≠ 2):Sa k a v:=⟨fun e=>absurd e h,fun e=>absurd e h2⟩
theorem wSk {k:Int} {p:Pos} {A B C:List Z8} {V:List F2} {S E:List U0} {D:List E8} : wS ⟨k,p,A,B,C,V,S,E,D⟩=1+sm wE A+sm wE B+sm wE C+sm wV V+sm wS S+sm wS E+sm wC D:=Z8c _
theorem sm0 {α : Type} (w : α → Nat):sm w []=0:=rfl
theorem no {α : Type} {p : α → Prop} : ∀ y ∈ ([]:List α),p y:=fun y hy=>by cases hy
theorem X1y {r:Z0} (hr:Rd r) (p:Pos) (hp:Pn p):Ok (Q4k r ⟨0,p,[],[],[],[],[],[],[]⟩) (fun x=>OkS x.2∧Af r x.1 (wS x.2)):=by
  unfold Q4k;obtain⟨b,y1,e1,a1⟩:=P2 r [114,101,116,117,114,110];refine Ok.step e1 ?_;cases b with
  | true =>
    refine(Z4l (hr.after a1) _).bind fun y2 a2 => ?_;exact Ok.ok ⟨okS a2.1 no no no no no no hp (Sa.n (by decide) (by decide)) no,(a1.trans a2.2).mono (by dsimp only [cond_true]; rw [wSk]; simp only [sm0]; omega)⟩
  | false =>
  obtain⟨b,y3,e3,a3⟩:=P2 y1 [98,114,101,97,107];refine Ok.step e3 ?_;have a13:=a1.trans a3;cases b with
  | true =>
    refine(D7 y3 _).bind fun y4 a4 => ?_;exact Ok.ok ⟨okS no no no no no no no hp (Sa.n (by decide) (by decide)) no,(a13.trans a4).mono (by dsimp only [cond_true,cond_false]; rw [wSk]; simp only [sm0]; omega)⟩
  | false =>
  obtain⟨b,y5,e5,a5⟩:=P2 y3 [99,111,110,116,105,110,117,101];refine Ok.step e5 ?_;have a15:=a13.trans a5;cases b with
  | true =>
    refine(D7 y5 _).bind fun y6 a6 => ?_;exact Ok.ok ⟨okS no no no no no no no hp (Sa.n (by decide) (by decide)) no,(a15.trans a6).mono (by dsimp only [cond_true,cond_false]; rw [wSk]; simp only [sm0]; omega)⟩
  | false =>
    refine(Z6z (hr.after a15)).bind fun y7 a7 => ?_;refine(D7 y7.2 _).bind fun y8 a8 => ?_;exact Ok.ok ⟨okS (by simpa using a7.1) no no no no no no hp (Sa.a (Nat.le_refl 1) (by decide)) no,((a15.trans a7.2).trans a8).mono (by dsimp only [cond_false]; rw [wSk,sm1]; simp only [sm0]; omega)⟩
def PB (r:Z0) (k:Nat) (x:List U0×Z0):Prop:=(∀ y ∈ x.1,OkS y)∧Af r x.2 (sm wS x.1+k)
def OkC (c:E8):Prop:=(∀ y ∈ c.Body,OkS y)∧Pn c.Pos
def PC (r:Z0) (k:Nat) (x:List E8×Z0):Prop:=(∀ c ∈ x.1,OkC c)∧Af r x.2 (sm wC x.1+k)
def PS (r:Z0) (x:U0×Z0):Prop:=OkS x.1∧Af r x.2 (wS x.1)
structure S2 (n:Nat):Prop where
  block : ∀ r,Rd r→10 * r.l.length+1≤n→Ok ((Z3v n).E0 r) (PB r 2)
  cases_ : ∀ r,Rd r→10 * r.l.length+1≤n→Ok ((Z3v n).A3 r) (PC r 2)
  stmt : ∀ r,Rd r→10 * r.l.length+2≤n→Ok ((Z3v n).G7 r) (PS r)
  body : ∀ r,Rd r→10 * r.l.length+3≤n→Ok ((Z3v n).J9 r) (PB r 0)
theorem body_s {n:Nat} (h:S2 n) : ∀ r,Rd r→10 * r.l.length+3≤n+1→Ok ((Z3v (n+1)).J9 r) (PB r 0):=by
  intro r hr hn;show Ok (Q3h (Z3v n) r) _;unfold Q3h;refine(h.stmt r hr (by omega)).bind fun y1 a1 => ?_;have hw:=Z8c y1.1;cases hk:(y1.1.Kind == 11) with
  | true=>exact Ok.ok ⟨match a1.1 with | .mk a b c v s e d _ _ _=>s,a1.2.mono (by dsimp only; omega)⟩
  | false=>exact Ok.ok ⟨by simpa using a1.1,a1.2.mono (by dsimp only; rw [Q7k,sm0]; omega)⟩
theorem block_s {n:Nat} (h:S2 n) : ∀ r,Rd r→10 * r.l.length+1≤n+1→Ok ((Z3v (n+1)).E0 r) (PB r 2):=by
  intro r hr hn;show Ok (Q2n (Z3v n) r) _;unfold Q2n;have lr:=hr.len;refine(D7 r _).bind fun y1 a1 => ?_;refine Ok.loop (fun s=>(∀ y ∈ s.1,OkS y)∧Af r s.2 (sm wS s.1+1)) (fun s=>s.2.l.length) ⟨no,a1.mono (by simp [sm])⟩ (by have:=a1.len; dsimp only; omega) ?_;rintro⟨x1,x2⟩ ⟨i1,i2⟩
  dsimp only at i1 i2 ⊢
  have li:=i2.len;have hx:=W6 Z4r x1;obtain⟨b,y2,e2,a2⟩:=P2 x2 [125];refine Rn.step e2 ?_;have a12:=i2.trans a2;have l2:=a12.len;have l3:=a2.len;cases b with
  | true =>
    dsimp only [cond_true,cond_false,Bool.not_true] at a12 ⊢
    exact Rn.ok (Ok.ok ⟨i1,a12.mono (by dsimp only; omega)⟩)
  | false =>
    dsimp only [cond_true,cond_false,Bool.not_false] at a12 l2 l3 ⊢
    refine Rn.bind (h.stmt y2 (hr.after a12) (by omega)) (fun y3 a3 => ?_) (fun e=>Ok.err);have a13:=a12.trans a3.2;have l4:=a3.2.len;have hp:=Z4r y3.1;refine Rn.step (P4 (by simp; omega)) ?_;refine Rn.ok ⟨⟨?_,a13.mono (by dsimp only; rw [Q1t,Q7k,sm0]; omega)⟩,by dsimp only; omega⟩;intro y hy
    rcases List.mem_append.1 hy with hy | hy
    · exact i1 y hy
    · have:y=y3.1:=by simpa using hy
      rw [this]; exact a3.1
theorem cases_s {n:Nat} (h:S2 n) : ∀ r,Rd r→10 * r.l.length+1≤n+1→Ok ((Z3v (n+1)).A3 r) (PC r 2):=by
  intro r hr hn;show Ok (Q2m (Z3v n) r) _;unfold Q2m;have lr:=hr.len;refine(D7 r _).bind fun y1 a1 => ?_;have l1:=a1.len;refine Ok.loop (fun s=>(∀ c ∈ s.1,OkC c)∧Af r s.2 (sm wC s.1+1)) (fun s=>s.2.l.length) ⟨no,a1.mono (by simp [sm])⟩ (by dsimp only; omega) ?_;rintro⟨x1,x2⟩ ⟨i1,i2⟩
  dsimp only at i1 i2 ⊢
  have li:=i2.len;have hx:=W6 X0a x1;obtain⟨b,y2,e2,a2⟩:=P2 x2 [125];refine Rn.step e2 ?_;have a12:=i2.trans a2;have l2:=a12.len;have l3:=a2.len;cases b with
  | true =>
    dsimp only [cond_true,cond_false,Bool.not_true] at a12 ⊢
    exact Rn.ok (Ok.ok ⟨i1,a12.mono (by dsimp only; omega)⟩)
  | false =>
    dsimp only [cond_true,cond_false,Bool.not_false] at a12 l2 l3 ⊢
    obtain⟨p,ep,pz⟩:=Z8r (hr.after a12);refine Rn.step ep ?_
    dsimp only [jn]
    have key : ∀(x4:E8) (x5:Z0),x4.Body = []→Pn x4.Pos→Af x2 x5 1→Rn ((Y9 x5 ([58]:List UInt8)).bind fun y8=>exC y8 (fun y8=>(loopM (fun(x7,x8)=>((V7 x8 ([99,97,115,101]:List UInt8)).bind fun y9=>bif !y9 then ((V7 x8 ([100,101,102,97,117,108,116]:List UInt8)).bind fun y10=>bif !y10 then ((V7 x8 ([125]:List UInt8)).bind fun y11=>bif !y11 then (((Z3v n).G7 x8).bind fun y12=>exC y12 (fun y12=>(S0 (List.length x7.Body+List.length ([y12.1]:List U0))).bind fun _=>some (Lp.go ({x7 with Body:=x7.Body++([y12.1]:List U0)},y12.2))) (fun e3=>some (Lp.ret (Except.error (e3.1,e3.2))))) else (some (Lp.brk (x7,x8)))) else (some (Lp.brk (x7,x8)))) else (some (Lp.brk (x7,x8))):Option (Lp (E8×Z0) (Except (Y0×Z0) ((List E8)×Z0))))) NN (x4,y8)).bind fun o=>o.thn (fun(x7,x8)=>(S0 (List.length x1+List.length ([x7]:List E8))).bind fun _=>some (Lp.go (x1++([x7]:List E8),x8))) (fun r=>some (Lp.ret r))) (fun e4=>some (Lp.ret (Except.error (e4.1,e4.2))))) (NxR (fun s=>(∀ c ∈ s.1,OkC c)∧Af r s.2 (sm wC s.1+1)) (fun s=>s.2.l.length) (x1,x2) (fun o=>o.thn (fun(x1,x2)=>some (Except.ok (ε := Y0×Z0) (x1,x2))) (fun r=>some r)) (PC r 2)):=by
      intro x4 x5 hb hp a5;refine Rn.bind (D7 x5 _) (fun y8 a8 => ?_) (fun e=>Ok.err);have a28:=a5.trans a8;have l8:=a28.len
      refine Exists.elim (Q3b (body:=(fun(x7,x8)=>((V7 x8 ([99,97,115,101]:List UInt8)).bind fun y9=>bif !y9 then ((V7 x8 ([100,101,102,97,117,108,116]:List UInt8)).bind fun y10=>bif !y10 then ((V7 x8 ([125]:List UInt8)).bind fun y11=>bif !y11 then (((Z3v n).G7 x8).bind fun y12=>exC y12 (fun y12=>(S0 (List.length x7.Body+List.length ([y12.1]:List U0))).bind fun _=>some (Lp.go ({x7 with Body:=x7.Body++([y12.1]:List U0)},y12.2))) (fun e3=>some (Lp.ret (Except.error (e3.1,e3.2))))) else (some (Lp.brk (x7,x8)))) else (some (Lp.brk (x7,x8)))) else (some (Lp.brk (x7,x8))):Option (Lp (E8×Z0) (Except (Y0×Z0) ((List E8)×Z0)))))) (n:=NN) (s:=(x4,y8))
        (fun s=>OkC s.1∧Af x2 s.2 (sm wS s.1.Body+2)) (fun s=>s.2.l.length)
        (fun o=>match o with
          | .go _=>False
          | .brk s=>OkC s.1∧Af x2 s.2 (sm wS s.1.Body+2)
          | .ret z => ∃ e,z=Except.error e) ⟨⟨by rw [hb]; exact no,hp⟩,by dsimp only; rw [hb]; exact a28.mono (by simp [sm])⟩ (Q9u (by dsimp only; omega)) ?_) ?_
      · rintro⟨x7,x8⟩ ⟨j1,j2⟩
        dsimp only at j1 j2 ⊢
        have lj:=j2.len;have hx7:=W6 Z4r x7.Body;obtain⟨b1,e1,_⟩:=Z1m x8 [99,97,115,101];rw [e1,Option.bind_some];cases b1 with
        | true=>exact⟨_,rfl,j1,j2⟩
        | false =>
        rw [c1 (b := !false) rfl];obtain⟨b1,e1,_⟩:=Z1m x8 [100,101,102,97,117,108,116];rw [e1,Option.bind_some];cases b1 with
        | true=>exact⟨_,rfl,j1,j2⟩
        | false =>
        rw [c1 (b := !false) rfl];obtain⟨b1,e1,_⟩:=Z1m x8 [125];rw [e1,Option.bind_some];cases b1 with
        | true=>exact⟨_,rfl,j1,j2⟩
        | false =>
        rw [c1 (b := !false) rfl];obtain⟨z,ez,hz⟩:=h.stmt x8 (hr.after (i2.trans j2)) (by omega);rw [ez,Option.bind_some];cases z with
        | error e=>exact⟨_,rfl,_,rfl⟩
        | ok y12 =>
          have lz:=hz.2.len;have hp:=Z4r y12.1
          dsimp only [exC]
          rw [P4 (by simp; omega),Option.bind_some];refine⟨_,rfl,⟨⟨?_,j1.2⟩,(j2.trans hz.2).mono (by dsimp only; rw [Q1t,Q7k,sm0]; omega)⟩,by dsimp only; omega⟩;intro y hy
          rcases List.mem_append.1 hy with hy | hy
          · exact j1.1 y hy
          · have:y=y12.1:=by simpa using hy
            rw [this]; exact hz.1
      · rintro o ⟨ho,hp⟩;rw [ho,Option.bind_some];cases o with
        | go _=>exact hp.elim
        | ret z =>
          obtain⟨e,rfl⟩:=hp;exact Rn.ok Ok.err
        | brk s =>
          obtain⟨x7,x8⟩:=s;obtain⟨j1,j2⟩:=hp
          dsimp only at j1 j2
          have lj:=j2.len;have hwc:wC x7=1+sm wS x7.Body:=rfl;refine Rn.step (P4 (by simp; omega)) ?_;refine Rn.ok ⟨⟨?_,(i2.trans j2).mono (by dsimp only; rw [Q1t,Q7k,sm0]; omega)⟩,by dsimp only; omega⟩;intro c hc
          rcases List.mem_append.1 hc with hc | hc
          · exact i1 c hc
          · have:c=x7:=by simpa using hc
            rw [this]; exact j1
    obtain⟨b,y4,e4,a4⟩:=P2 y2 [100,101,102,97,117,108,116];refine Rn.step e4 ?_;have a24:=a2.trans a4;cases b with
    | true=>exact key _ _ rfl pz (a24.mono (by simp))
    | false =>
      refine Rn.bind (D7 y4 _) (fun y5 a5 => ?_) (fun e=>Ok.err);obtain⟨b,y6,e6,a6⟩:=P2 y5 [45];refine Rn.step e6 ?_;refine Rn.bind (Y2f y6 3) (fun y7 a7 => ?_) (fun e=>Ok.err);have a27:=((a24.trans a5).trans a6).trans a7.2;cases b with
      | true=>exact key _ _ rfl pz (a27.mono (by simp))
      | false=>exact key _ _ rfl pz (a27.mono (by simp))
def gS (e:Y0×Z0):Y0×Z0:=(e.1,{e.2 with depth:=IntKind.wrap .i64 (e.2.depth - 1)})
theorem stmt_s {n:Nat} (h:S2 n) : ∀ r,Rd r→10 * r.l.length+2≤n+1→Ok ((Z3v (n+1)).G7 r) (PS r):=by
  intro r hr hn;show Ok (Q3d (Z3v n) r) _;unfold Q3d;refine(Z6q hr).bind fun y1 d1 => ?_;have hr1:=hr.down d1;have ld:y1.l.length=r.l.length:=by rw [d1.1]
  obtain⟨p,ep,pz⟩:=Z8r hr1;refine Ok.step ep ?_
  dsimp only [jn]
  have fin : ∀(x1:U0) (x2:Z0),OkS x1→Af y1 x2 (wS x1)→Ok (some (Except.ok (ε := Y0×Z0) (x1,{x2 with depth:=IntKind.wrap .i64 (x2.depth - 1)}))) (PS r):=fun x1 x2 h1 h2=>Ok.ok ⟨h1,Af.up hr d1 h2⟩;obtain⟨b,e3,_⟩:=Y6e y1;refine Ok.step e3 ?_;cases b with
  | true =>
    refine Ok.bind (g:=gS) (Y7e hr1) fun y4 a4 => ?_;exact fin _ _ (okS no no no (by simpa using a4.1) no no no pz ⟨fun h=>absurd h (by decide),fun _=>Nat.le_refl 1⟩ no) (a4.2.mono (by rw [wSk,Q7k]; simp only [sm0]; omega))
  | false =>
  obtain⟨b,e5,_⟩:=Z1m y1 [123];refine Ok.step e5 ?_;cases b with
  | true =>
    refine Ok.bind (g:=gS) (h.block y1 hr1 (by(try dsimp only at *); omega)) fun y6 a6 => ?_;exact fin _ _ (okS no no no no a6.1 no no pz (Sa.n (by decide) (by decide)) no) (a6.2.mono (by rw [wSk]; simp only [sm0]; omega))
  | false =>
  obtain⟨b,y7,e7,a7⟩:=P2 y1 [59];refine Ok.step e7 ?_;cases b with
  | true=>exact fin _ _ (okS no no no no no no no pz (Sa.n (by decide) (by decide)) no) (a7.mono (by dsimp only [cond_true]; rw [wSk]; simp only [sm0]; omega))
  | false =>
  obtain⟨b,y8,e8,a8⟩:=P2 y7 [105,102];refine Ok.step e8 ?_;have a8:=a7.trans a8;have l8:=a8.len;cases b with
  | true =>
    dsimp only [cond_true,cond_false] at a8 l8
    have hr8:=hr1.after a8;refine Ok.bind (g:=gS) (Z1u hr8) fun y9 a9 => ?_;have l9:=a9.1.2.len;refine Ok.bind (g:=gS) (h.body y9.2 (hr8.after a9.1.2) (by(try dsimp only at *); omega)) fun y10 a10 => ?_;have l10:=a10.2.len;obtain⟨b,y11,e11,a11⟩:=P2 y10.2 [101,108,115,101];refine Ok.step e11 ?_;have a11' := ((a8.trans a9.1.2).trans a10.2).trans a11;have l11:=a11.len;cases b with
    | true =>
      refine Ok.bind (g:=gS) (h.body y11 (hr1.after a11') (by(try dsimp only at *); omega)) fun y12 a12 => ?_;exact fin _ _ (okS a9.1.1 no no no a10.1 a12.1 no pz (Sa.a a9.2 (by decide)) no) ((a11'.trans a12.2).mono (by rw [wSk]; simp only [sm0]; dsimp only [cond_true]; omega))
    | false=>exact fin _ _ (okS a9.1.1 no no no a10.1 no no pz (Sa.a a9.2 (by decide)) no) (a11'.mono (by rw [wSk]; simp only [sm0]; omega))
  | false =>
  obtain⟨b,y13,e13,a13⟩:=P2 y8 [119,104,105,108,101];refine Ok.step e13 ?_;have a13:=a8.trans a13;have l13:=a13.len;cases b with
  | true =>
    dsimp only [cond_true,cond_false] at a13 l13
    have hr13:=hr1.after a13;refine Ok.bind (g:=gS) (Z1u hr13) fun y14 a14 => ?_;have l14:=a14.1.2.len;refine Ok.bind (g:=gS) (h.body y14.2 (hr13.after a14.1.2) (by(try dsimp only at *); omega)) fun y15 a15 => ?_;exact fin _ _ (okS a14.1.1 no no no a15.1 no no pz (Sa.a a14.2 (by decide)) no) (((a13.trans a14.1.2).trans a15.2).mono (by rw [wSk]; simp only [sm0]; omega))
  | false =>
  obtain⟨b,y16,e16,a16⟩:=P2 y13 [100,111];refine Ok.step e16 ?_;have a16:=a13.trans a16;have l16:=a16.len;cases b with
  | true =>
    dsimp only [cond_true,cond_false] at a16 l16
    have hr16:=hr1.after a16;refine Ok.bind (g:=gS) (h.body y16 hr16 (by(try dsimp only at *); omega)) fun y17 a17 => ?_;refine Ok.bind (g:=gS) (D7 y17.2 _) fun y18 a18 => ?_;have a18' := (a16.trans a17.2).trans a18;refine Ok.bind (g:=gS) (Z1u (hr1.after a18')) fun y19 a19 => ?_;refine Ok.bind (g:=gS) (D7 y19.2 _) fun y20 a20 => ?_;exact fin _ _ (okS a19.1.1 no no no a17.1 no no pz (Sa.a a19.2 (by decide)) no) (((a18'.trans a19.1.2).trans a20).mono (by rw [wSk]; simp only [sm0]; omega))
  | false =>
  obtain⟨b,y21,e21,a21⟩:=P2 y16 [102,111,114];refine Ok.step e21 ?_;have a21:=a16.trans a21;have l21:=a21.len;cases b with
  | true =>
    dsimp only [cond_true,cond_false] at a21 l21
    refine Ok.bind (g:=gS) (D7 y21 _) fun y22 a22 => ?_;have a22' := a21.trans a22;refine Ok.bind (g:=gS) (Z4l (hr1.after a22') _) fun y23 a23 => ?_;have a23' := a22'.trans a23.2;refine Ok.bind (g:=gS) (Z4l (hr1.after a23') _) fun y24 a24 => ?_;have a24' := a23'.trans a24.2;refine Ok.bind (g:=gS) (Z4l (hr1.after a24') _) fun y25 a25 => ?_;have a25' := a24'.trans a25.2;have l25:=a25'.len;refine Ok.bind (g:=gS) (h.body y25.2 (hr1.after a25') (by(try dsimp only at *); omega)) fun y26 a26 => ?_;exact fin _ _ (okS a23.1 a24.1 a25.1 no a26.1 no no pz (Sa.n (by decide) (by decide)) no) ((a25'.trans a26.2).mono (by rw [wSk]; simp only [sm0]; omega))
  | false =>
  obtain⟨b,y27,e27,a27⟩:=P2 y21 [115,119,105,116,99,104];refine Ok.step e27 ?_;have a27:=a21.trans a27;have l27:=a27.len;cases b with
  | true =>
    dsimp only [cond_true,cond_false] at a27 l27
    have hr27:=hr1.after a27;refine Ok.bind (g:=gS) (Z1u hr27) fun y28 a28 => ?_;have l28:=a28.1.2.len;refine Ok.bind (g:=gS) (h.cases_ y28.2 (hr27.after a28.1.2) (by(try dsimp only at *); omega)) fun y29 a29 => ?_;exact fin _ _ (okS a28.1.1 no no no no no (fun c hc=>(a29.1 c hc).1) pz (Sa.a a28.2 (by decide)) fun c hc=>(a29.1 c hc).2) (((a27.trans a28.1.2).trans a29.2).mono (by rw [wSk]; simp only [sm0]; omega))
  | false =>
    refine Ok.bind (g:=fun e:Y0×Z0×U0=>(e.1,{e.2.1 with depth:=IntKind.wrap .i64 (e.2.1.depth - 1)})) (X1y (hr1.after a27) p pz) fun y30 a30 => ?_;exact fin _ _ a30.1 ((a27.trans a30.2).mono (by omega))
theorem rdS2 : ∀ n,S2 n
  | 0=>⟨fun r _ h=>by omega,fun r _ h=>by omega,fun r _ h=>by omega,fun r _ h=>by omega⟩
  | n+1=>⟨block_s (rdS2 n),cases_s (rdS2 n),stmt_s (rdS2 n),body_s (rdS2 n)⟩
theorem X2t {r:Z0} (hr:Rd r):Ok (E0 r) (PB r 2):=(rdS2 NN).block r hr (by have:=hr.len; unfold NN; omega)
theorem X2a {r:Z0} (hr:Rd r) {p:J2} (hp:OkP p) (hw:wP p≤5000):Ok (Q1r r p) (fun x=>OkP x.2 ∧ ∃ k,wP x.2=wP p+k∧1≤k∧Af r x.1 k):=by
  unfold Q1r;have hwp:wP p=sm wT p.Structs+sm wV p.Globals+sm wF p.Funcs:=rfl;have l1:=W6 Y7c p.Structs;have l2:=W6 Z6b p.Globals;have l3:=W6 Y7d p.Funcs;obtain⟨q,eq,qz⟩:=Z8r hr;refine Ok.step eq ?_
  dsimp only [jn]
  have rest:Ok ((G6 r).bind fun y13=>exC y13 (fun y13=>(J8 y13.2).bind fun y14=>exC y14 (fun y14=>(V7 y14.2 ([40]:List UInt8)).bind fun y15=>bif !y15 then ((O1 y14.2 (⟨q,y13.1,y14.1,[],[],false⟩:F2)).bind fun y16=>exC y16 (fun y16=>(S0 (List.length p.Globals+List.length ([y16.1]:List F2))).bind fun _=>some (Except.ok (y16.2,{p with Globals:=p.Globals++([y16.1]:List F2)}))) (fun e9=>some (Except.error (e9.1,e9.2,p)))) else ((W5 y14.2).bind fun y17=>exC y17 (fun y17=>(E0 y17.2).bind fun y18=>exC y18 (fun y18=>(S0 (List.length p.Funcs+List.length ([{(⟨q,y13.1,y14.1,y17.1,[]⟩:P3) with Body:=y18.1}]:List P3))).bind fun _=>some (Except.ok (y18.2,{p with Funcs:=p.Funcs++([{(⟨q,y13.1,y14.1,y17.1,[]⟩:P3) with Body:=y18.1}]:List P3)}))) (fun e11=>some (Except.error (e11.1,e11.2,p)))) (fun e10=>some (Except.error (e10.1,e10.2,p))))) (fun e12=>some (Except.error (e12.1,e12.2,p)))) (fun e13=>some (Except.error (e13.1,e13.2,p)))) (fun x=>OkP x.2 ∧ ∃ k,wP x.2=wP p+k∧1≤k∧Af r x.1 k):=by
    refine Ok.bind (g:=fun e:Y0×Z0=>(e.1,e.2,p)) (Z0f hr) fun y13 a13 => ?_;refine Ok.bind (g:=fun e:Y0×Z0=>(e.1,e.2,p)) (Z2b (hr.after a13.2)) fun y14 a14 => ?_;have a134:=a13.2.trans a14.2.1;have hr14:=hr.after a134;obtain⟨b,e15,_⟩:=Z1m y14.2 [40];refine Ok.step e15 ?_;cases b with
    | false =>
      refine Ok.bind (g:=fun e:Y0×Z0=>(e.1,e.2,p)) (Y5o hr14 (v:=⟨q,y13.1,y14.1,[],[],false⟩) a13.1 a14.1 qz) fun y16 a16 => ?_;have hv:wV y16.1=1+y16.1.Type_.Stars.toNat+y16.1.Dims.length+sm wE y16.1.Init:=rfl;rw [a16.2.1] at hv;refine Ok.step (P4 (by simp; omega)) ?_;refine Ok.ok ⟨⟨hp.s,?_,hp.f⟩,wV y16.1,?_,Z6b _,(a134.trans a16.2.2).mono (by dsimp only at hv ⊢; omega)⟩
      · intro v hv
        rcases List.mem_append.1 hv with hv | hv
        · exact hp.g v hv
        · have:v=y16.1:=by simpa using hv
          rw [this]; exact a16.1
      · show sm wT p.Structs+sm wV (p.Globals ++ [y16.1])+sm wF p.Funcs=_;rw [Q1t,Q7k,sm0]; omega
    | true =>
      refine Ok.bind (g:=fun e:Y0×Z0=>(e.1,e.2,p)) (X0m hr14) fun y17 a17 => ?_;have a17' := a134.trans a17.2;refine Ok.bind (g:=fun e:Y0×Z0=>(e.1,e.2,p)) (X2t (hr.after a17')) fun y18 a18 => ?_;refine Ok.step (P4 (by simp; omega)) ?_;have hf:wF (⟨q,y13.1,y14.1,y17.1,y18.1⟩:P3)=1+y13.1.Stars.toNat+sm wV y17.1+sm wS y18.1:=rfl;refine Ok.ok ⟨⟨hp.s,hp.g,?_⟩,wF (⟨q,y13.1,y14.1,y17.1,y18.1⟩:P3),?_,Y7d _,(a17'.trans a18.2).mono (by omega)⟩
      · intro f hf
        rcases List.mem_append.1 hf with hf | hf
        · exact hp.f f hf
        · have:f=⟨q,y13.1,y14.1,y17.1,y18.1⟩:=by simpa using hf
          rw [this]; exact⟨a14.1,a13.1,a17.1,a18.1,qz⟩
      · show sm wT p.Structs+sm wV p.Globals+sm wF (p.Funcs ++ [(⟨q,y13.1,y14.1,y17.1,y18.1⟩:P3)])=_;rw [Q1t,Q7k,sm0]; omega
  obtain⟨b,e2,_⟩:=Z1m r [115,116,114,117,99,116];refine Ok.step e2 ?_;cases b with
  | false=>exact rest
  | true =>
    obtain⟨b,e3⟩:=Y9a r 2 [123];refine Ok.step e3 ?_;cases b with
    | false=>exact rest
    | true =>
      refine Ok.bind (g:=fun e:Y0×Z0=>(e.1,e.2,p)) (D7 r _) fun y4 a4 => ?_;refine Ok.bind (g:=fun e:Y0×Z0=>(e.1,e.2,p)) (Z2b (hr.after a4)) fun y5 a5 => ?_;have a45:=a4.trans a5.2.1;refine Ok.bind (g:=fun e:Y0×Z0=>(e.1,e.2,p)) (X0t (hr.after a45)) fun y6 a6 => ?_;refine Ok.step (P4 (by simp; omega)) ?_;have hf:wT (⟨q,y5.1,y6.1⟩:D4)=1+sm wV y6.1:=rfl;refine Ok.ok ⟨⟨?_,hp.g,hp.f⟩,wT (⟨q,y5.1,y6.1⟩:D4),?_,Y7c _,(a45.trans a6.2).mono (by omega)⟩
      · intro s hs
        rcases List.mem_append.1 hs with hs | hs
        · exact hp.s s hs
        · have:s=⟨q,y5.1,y6.1⟩:=by simpa using hs
          rw [this]; exact⟨a5.1,a6.1,qz⟩
      · show sm wT (p.Structs ++ [(⟨q,y5.1,y6.1⟩:D4)])+sm wV p.Globals+sm wF p.Funcs=_;rw [Q1t,Q7k,sm0]; omega
theorem try_any {r:Z0} (hr:Rd r) : ∃ z,Q6w r=some z ∧ ∀ x,z = .ok x→OkP x.1∧wP x.1≤5000:=by
  unfold Q6w;have lr:=hr.len
  refine Exists.elim (Q3b (body:=(fun(x4,x5)=>(bif decide (0 < (List.length x5.l:Int)) then ((Q1r x5 x4).bind fun y1=>exC y1 (fun y1=>some (Lp.go (y1.2,y1.1))) (fun e1=>some (Lp.ret (Except.error ((⟨[],[],[]⟩:J2),e1.1,e1.2.1))))) else (some (Lp.brk (x4,x5))):Option (Lp (J2×Z0) (Except (J2×Y0×Z0) (J2×Z0)))))) (n:=NN) (s:=((⟨[],[],[]⟩:J2),r))
    (fun s=>OkP s.1∧Af r s.2 (wP s.1)) (fun s=>s.2.l.length)
    (fun o=>match o with
      | .go _=>False
      | .brk s=>OkP s.1∧wP s.1≤5000
      | .ret z => ∃ e,z=Except.error e) ⟨⟨no,no,no⟩,(Af.refl r).mono (Nat.le_refl 0)⟩ (Q9u (by dsimp only; omega)) ?_) ?_
  · rintro⟨x4,x5⟩ ⟨i1,i2⟩
    dsimp only at i1 i2 ⊢
    have li:=i2.len
    by_cases hl:0 < x5.l.length
    · rw [c1 (dt (by omega))];obtain⟨z,ez,hz⟩:=X2a (hr.after i2) i1 (by omega);rw [ez,Option.bind_some];cases z with
      | error e=>exact⟨_,rfl,_,rfl⟩
      | ok x =>
        obtain⟨h1,k,h2,h3,h4⟩:=hz;have:=h4.len;exact⟨_,rfl,⟨h1,(i2.trans h4).mono (by dsimp only; omega)⟩,by dsimp only; omega⟩
    · rw [c0 (df (by omega))];exact⟨_,rfl,i1,by dsimp only; omega⟩
  · rintro o ⟨ho,hp⟩;rw [ho,Option.bind_some];cases o with
    | go _=>exact hp.elim
    | ret z =>
      obtain⟨e,rfl⟩:=hp;exact⟨_,rfl,fun x hx=>by cases hx⟩
    | brk s =>
      obtain⟨x4,x5⟩:=s;exact⟨_,rfl,fun x hx=>by cases hx; exact hp⟩
theorem out_tok:Q4j (outW ++ [])=some (⟨2,outW,0,Y1x⟩,0):=by kernel_rfl
theorem lx_cnt {s:List UInt8} {ts:List V0} (h:Lx s ts) (hl:s.length≤100000):ts.length≤s.length ∧ ∀ t ∈ ts,t.Text.length≤s.length∧(t.Kind=1→t.Text ≠ outW)∧U32 t.Num:=by
  induction h with
  | nil=>simp
  | @blank s ts h n hn h0 k ih =>
    obtain⟨i1,i2⟩:=ih (by simp; omega);rw [List.length_drop] at i1 i2;exact⟨by omega,fun t ht=>⟨by have:=(i2 t ht).1; omega,(i2 t ht).2⟩⟩
  | @tok s t ts h hb ht k ih =>
    obtain⟨i1,i2⟩:=ih (by simp; omega);rw [List.length_drop] at i1 i2;obtain⟨y,ey,hT⟩:=Y4h s h hl;rw [ey] at ht;cases ht;have hT:=hT rfl;have h1:=List.length_pos_iff.2 hT.ne;have h2:=hT.pre.length_le
    dsimp only at h1 h2 i1 i2
    refine⟨by rw [List.length_cons]; omega,fun x hx => ?_⟩
    rcases List.mem_cons.1 hx with rfl | hx
    · refine⟨h2,fun hk he => ?_,hT.nu⟩;have h3:=hT.again [] (fun c hc=>by cases hc) (by rw [List.append_nil]; dsimp only; omega)
      dsimp only at h3
      rw [he,out_tok] at h3;have:x=⟨2,outW,0,Y1x⟩:=(congrArg (fun z=>z.1) (Option.some.inj h3)).symm;rw [this] at hk;exact absurd hk (by decide)
    · exact⟨by have:=(i2 x hx).1; omega,(i2 x hx).2⟩
theorem Read_any (s:List UInt8) (hs:s.length≤4000) : ∃ p q e,Z3f s=some (p,q,e)∧(e=0→OkP p∧wP p≤5000):=by
  obtain⟨⟨l,q,e⟩,ey,hy⟩:=X2i s (by omega);unfold Z3f;rw [ey,Option.bind_some]
  dsimp only at hy ⊢
  by_cases he:e=0
  · have hx:Lx s (l.map Y1o)∧(∀ t ∈ l,Pn t.Pos)∧Pn q:=by
      rcases hy with hy | hy
      · exact hy.2
      · exact absurd he hy.1
    obtain⟨c1',c2⟩:=lx_cnt hx.1 (by omega);rw [List.length_map] at c1';have hr:Rd ⟨l,q,0⟩:=⟨fun t ht=>by have:=c2 (Y1o t) (List.mem_map_of_mem ht); exact Nat.le_trans this.1 (by omega),by dsimp only; omega,⟨Int.le_refl 0,(by decide:(0:Int)≤200)⟩,hx.2.1,hx.2.2,fun t ht=>(c2 (Y1o t) (List.mem_map_of_mem ht)).2.1,fun t ht=>(c2 (Y1o t) (List.mem_map_of_mem ht)).2.2⟩;obtain⟨z,ez,hz⟩:=try_any hr;rw [c0 (by rw [he]; rfl),ez,Option.bind_some];cases z with
    | ok x=>exact⟨_,_,_,rfl,fun _=>hz x rfl⟩
    | error x=>exact⟨_,_,_,rfl,fun _=>⟨⟨no,no,no⟩,by decide⟩⟩
  · rw [c1 (by simpa using he)];exact⟨_,_,_,rfl,fun _=>⟨⟨no,no,no⟩,by decide⟩⟩
def Sv {Z Z' : Type} (Q:Z→Z' → Prop) (y:Option Z) (y' : Option Z'):Prop:=match y,y' with
  | none,none=>True
  | some z,some z' => Q z z'
  | _,_=>False
def Xr {E A B:Type} (R:E→E→Prop) (Q:A→B→Prop):Except E A→Except E B→Prop
  | .ok a,.ok b=>Q a b
  | .error e,.error e' => R e e'
  | _,_=>False
def Lr {S R R' : Type} (Q:R→R' → Prop):Lp S R→Lp S R' → Prop
  | .go s,.go s' => s=s'
  | .brk s,.brk s' => s=s'
  | .ret r,.ret r' => Q r r'
  | _,_=>False
def Fl {A:Type} (R:A→A→Prop) (a b:List A):Prop:=a.length=b.length ∧ ∀(i:Nat) (x y:A),a[i]? = some x→b[i]? = some y→R x y
def Rc (a b:Z3):Prop:=a.e=b.e
def RpV (a b:Z3×Q0):Prop:=a.1.e=b.1.e∧a.2=b.2
theorem Sv.ok {E A:Type} {R:E→E→Prop} {a:A} : Sv (Xr R Eq) (some (.ok a)) (some (.ok a)):=rfl
theorem Sv.go {S R R' : Type} {Q:R→R' → Prop} {s:S} : Sv (Lr Q) (some (.go s)) (some (.go s)):=rfl
theorem Sv.brk {S R R' : Type} {Q:R→R' → Prop} {s:S} : Sv (Lr Q) (some (.brk s)) (some (.brk s)):=rfl
theorem Sv.er {E A B:Type} {R:E→E→Prop} {Q:A→B→Prop} {e e' : E} (h:R e e'):Sv (Xr R Q) (some (.error e)) (some (.error e')):=h
theorem Sv.rer {S E A B:Type} {R:E→E→Prop} {Q:A→B→Prop} {e e' : E} (h:R e e'):Sv (Lr (S:=S) (Xr R Q)) (some (.ret (.error e))) (some (.ret (.error e'))):=h
theorem Sv.cond {Z Z' : Type} {Q:Z→Z' → Prop} {c:Bool} {a b:Option Z} {a' b' : Option Z'} (h:Sv Q a a') (k:Sv Q b b'):Sv Q (bif c then a else b) (bif c then a' else b'):=by cases c <;> assumption
theorem Sv.bindS {Z Z' B:Type} {Q:Z→Z' → Prop} {m:Option B} {f:B→Option Z} {f' : B→Option Z'} (h : ∀ x,Sv Q (f x) (f' x)):Sv Q (m.bind f) (m.bind f'):=by
  cases m with
  | none=>exact trivial
  | some x=>exact h x
theorem Sv.bindN {Z Z' B:Type} {Q:Z→Z' → Prop} {m m' : Option B} {f:B→Option Z} {f' : B→Option Z'} (e:m=m') (h : ∀ x,Sv Q (f x) (f' x)):Sv Q (m.bind f) (m'.bind f'):=by subst e; exact Sv.bindS h
theorem Sv.bindF {Z Z' E A B:Type} {Q:Z→Z' → Prop} {R:E→E→Prop} {P:A→B→Prop} {y:Option (Except E A)} {y' : Option (Except E B)} {f:A→Option Z} {f' : B→Option Z'} {k:E→Option Z} {k' : E→Option Z'}
    (h:Sv (Xr R P) y y') (hf : ∀ a b,P a b→Sv Q (f a) (f' b)) (hk : ∀ e e',R e e' → Sv Q (k e) (k' e')):Sv Q (y.bind fun z=>exC z f k) (y'.bind fun z=>exC z f' k'):=by
  cases y with
  | none =>
    cases y' with
    | none=>exact trivial
    | some z=>exact h.elim
  | some z =>
    cases y' with
    | none=>exact h.elim
    | some z' =>
      cases z with
      | ok a =>
        cases z' with
        | ok b=>exact hf a b h
        | error e=>exact(h:False).elim
      | error e =>
        cases z' with
        | ok b=>exact(h:False).elim
        | error e' => exact hk e e' h
theorem Sv.bindE {Z Z' E A:Type} {Q:Z→Z' → Prop} {R:E→E→Prop} {y y' : Option (Except E A)} {f:A→Option Z} {f' : A→Option Z'} {k:E→Option Z} {k' : E→Option Z'}
    (h:Sv (Xr R Eq) y y') (hf : ∀ a,Sv Q (f a) (f' a)) (hk : ∀ e e',R e e' → Sv Q (k e) (k' e')):Sv Q (y.bind fun z=>exC z f k) (y'.bind fun z=>exC z f' k'):=Sv.bindF h (fun a b e=>by subst e; exact hf a) hk
theorem Sv.idx {Z Z' A:Type} {Q:Z→Z' → Prop} {R:A→A→Prop} {l l' : List A} {i:Int} {f:A→Option Z} {f' : A→Option Z'} (h:Fl R l l') (k : ∀ x y,R x y→Sv Q (f x) (f' y)):Sv Q ((idx l i).bind f) ((idx l' i).bind f'):=by
  unfold Go.Proofs.YtfffghclkmbopaaGreat.idx
  split
  · cases e:l[i.toNat]? with
    | none =>
      have e2:=List.getElem?_eq_none_iff.1 e;rw [h.1] at e2;rw [List.getElem?_eq_none_iff.2 e2];exact trivial
    | some x =>
      cases e' : l'[i.toNat]? with
      | none =>
        have:=(List.getElem?_eq_some_iff.1 e).1;have:=List.getElem?_eq_none_iff.1 e';rw [← h.1] at this;omega
      | some y=>exact k x y (h.2 _ _ _ e e')
  · exact trivial
theorem Sv.loopM {S R R' : Type} {P:R→R' → Prop} {body:S→Option (Lp S R)} {body' : S→Option (Lp S R')} (h : ∀ s,Sv (Lr P) (body s) (body' s)) : ∀ n s,Sv (Lr P) (loopM body n s) (loopM body' n s)
  | 0,s=>trivial
  | n+1,s=>by
    unfold Go.Proofs.YtfffghclkmbopaaGreat.loopM
    have hs:=h s
    cases e:body s with
    | none =>
      rw [e] at hs
      cases e' : body' s with
      | none=>exact trivial
      | some z' => rw [e'] at hs; exact hs.elim
    | some z =>
      rw [e] at hs
      cases e' : body' s with
      | none=>rw [e'] at hs; cases z <;> exact hs.elim
      | some z' =>
        rw [e'] at hs
        cases z with
        | go t =>
          cases z' with
          | go t' =>
            have:t=t' := hs
            subst this
            exact Sv.loopM h n t
          | brk t' => exact(hs:False).elim
          | ret r=>exact(hs:False).elim
        | brk t =>
          cases z' with
          | go t' => exact(hs:False).elim
          | brk t' => exact hs
          | ret r=>exact(hs:False).elim
        | ret r =>
          cases z' with
          | go t' => exact(hs:False).elim
          | brk t' => exact(hs:False).elim
          | ret r' => exact hs
theorem Sv.loop {Z Z' S R R' : Type} {Q:Z→Z' → Prop} {P:R→R' → Prop} {body:S→Option (Lp S R)} {body' : S→Option (Lp S R')} {n:Nat} {s:S} {f:S→Option Z} {f' : S→Option Z'} {g:R→Option Z} {g' : R' → Option Z'}
    (h : ∀ s,Sv (Lr P) (body s) (body' s)) (hf : ∀ s,Sv Q (f s) (f' s)) (hg : ∀ r r',P r r' → Sv Q (g r) (g' r')):Sv Q ((Go.Proofs.YtfffghclkmbopaaGreat.loopM body n s).bind fun o=>o.thn f g) ((Go.Proofs.YtfffghclkmbopaaGreat.loopM body' n s).bind fun o=>o.thn f' g'):=by
  have hl:=Sv.loopM h n s;cases e:Go.Proofs.YtfffghclkmbopaaGreat.loopM body n s with
  | none =>
    rw [e] at hl;cases e' : Go.Proofs.YtfffghclkmbopaaGreat.loopM body' n s with
    | none=>exact trivial
    | some z=>rw [e'] at hl; exact hl.elim
  | some z =>
    rw [e] at hl;cases e' : Go.Proofs.YtfffghclkmbopaaGreat.loopM body' n s with
    | none=>rw [e'] at hl; cases z <;> exact hl.elim
    | some z' =>
      rw [e'] at hl;cases z with
      | go t =>
        cases z' with
        | go t' => exact trivial
        | brk t' => exact(hl:False).elim
        | ret r=>exact(hl:False).elim
      | brk t =>
        cases z' with
        | go t' => exact(hl:False).elim
        | brk t' =>
          have:t=t' := hl;subst this;exact hf t
        | ret r=>exact(hl:False).elim
      | ret r =>
        cases z' with
        | go t' => exact(hl:False).elim
        | brk t' => exact(hl:False).elim
        | ret r' => exact hg r r' hl
theorem Sv.thn {Z Z' S R:Type} {Q:Z→Z' → Prop} {x:Lp S R} {f:S→Option Z} {f' : S→Option Z'} {g:R→Option Z} {g' : R→Option Z'} (h : ∀ s,Sv Q (f s) (f' s)) (k : ∀ r,Sv Q (g r) (g' r)):Sv Q (x.thn f g) (x.thn f' g'):=by
  cases x with
  | go s=>exact trivial
  | brk s=>exact h s
  | ret r=>exact k r
inductive EqE:Z8→Z8→Prop
  | mk {a b:Z8} (k:a.Kind=b.Kind) (o:a.Op=b.Op) (n:a.Name=b.Name) (m:a.Num=b.Num) (t:a.Type_=b.Type_) (l:a.Kids.length=b.Kids.length) (ks : ∀(i:Nat) (x y:Z8),a.Kids[i]? = some x→b.Kids[i]? = some y→EqE x y):EqE a b
theorem EqE.k {a b:Z8} (h:EqE a b):a.Kind=b.Kind:=match h with | .mk k _ _ _ _ _ _=>k
theorem EqE.o {a b:Z8} (h:EqE a b):a.Op=b.Op:=match h with | .mk _ o _ _ _ _ _=>o
theorem EqE.n {a b:Z8} (h:EqE a b):a.Name=b.Name:=match h with | .mk _ _ n _ _ _ _=>n
theorem EqE.m {a b:Z8} (h:EqE a b):a.Num=b.Num:=match h with | .mk _ _ _ m _ _ _=>m
theorem EqE.t {a b:Z8} (h:EqE a b):a.Type_=b.Type_:=match h with | .mk _ _ _ _ t _ _=>t
theorem EqE.l {a b:Z8} (h:EqE a b):a.Kids.length=b.Kids.length:=match h with | .mk _ _ _ _ _ l _=>l
theorem EqE.ks {a b:Z8} (h:EqE a b):Fl EqE a.Kids b.Kids:=match h with | .mk _ _ _ _ _ l ks=>⟨l,ks⟩
structure EqV (a b:F2):Prop where
  n:a.Name=b.Name
  t:a.Type_=b.Type_
  d:a.Dims=b.Dims
  br:a.Brace=b.Brace
  is:Fl EqE a.Init b.Init
theorem EqV.l {a b:F2} (h:EqV a b):a.Init.length=b.Init.length:=h.is.1
inductive EqS:U0→U0→Prop
  | mk {a b:U0} (k:a.Kind=b.Kind) (a1:Fl EqE a.A b.A) (b1:Fl EqE a.B b.B) (c1:Fl EqE a.C b.C) (v1:Fl EqV a.Var b.Var)
    (bl:a.Body.length=b.Body.length) (bs : ∀(i:Nat) (x y:U0),a.Body[i]? = some x→b.Body[i]? = some y→EqS x y)
    (el:a.Else.length=b.Else.length) (es : ∀(i:Nat) (x y:U0),a.Else[i]? = some x→b.Else[i]? = some y→EqS x y)
    (cl:a.Cases.length=b.Cases.length) (cd : ∀(i:Nat) (x y:E8),a.Cases[i]? = some x→b.Cases[i]? = some y→x.Default=y.Default∧x.Num=y.Num∧x.Body.length=y.Body.length)
    (cs : ∀(i:Nat) (x y:E8),a.Cases[i]? = some x→b.Cases[i]? = some y → ∀(j:Nat) (s t:U0),x.Body[j]? = some s→y.Body[j]? = some t→EqS s t):EqS a b
structure EqC (a b:E8):Prop where
  d:a.Default=b.Default
  n:a.Num=b.Num
  bs:Fl EqS a.Body b.Body
theorem EqS.k {a b:U0} (h:EqS a b):a.Kind=b.Kind:=match h with | .mk k _ _ _ _ _ _ _ _ _ _ _=>k
theorem EqS.a1 {a b:U0} (h:EqS a b):Fl EqE a.A b.A:=match h with | .mk _ a _ _ _ _ _ _ _ _ _ _=>a
theorem EqS.b1 {a b:U0} (h:EqS a b):Fl EqE a.B b.B:=match h with | .mk _ _ b _ _ _ _ _ _ _ _ _=>b
theorem EqS.c1 {a b:U0} (h:EqS a b):Fl EqE a.C b.C:=match h with | .mk _ _ _ c _ _ _ _ _ _ _ _=>c
theorem EqS.v1 {a b:U0} (h:EqS a b):Fl EqV a.Var b.Var:=match h with | .mk _ _ _ _ v _ _ _ _ _ _ _=>v
theorem EqS.s1 {a b:U0} (h:EqS a b):Fl EqS a.Body b.Body:=match h with | .mk _ _ _ _ _ l s _ _ _ _ _=>⟨l,s⟩
theorem EqS.e1 {a b:U0} (h:EqS a b):Fl EqS a.Else b.Else:=match h with | .mk _ _ _ _ _ _ _ l s _ _ _=>⟨l,s⟩
theorem EqS.d1 {a b:U0} (h:EqS a b):Fl EqC a.Cases b.Cases:=match h with | .mk _ _ _ _ _ _ _ _ _ l d s=>⟨l,fun i x y hx hy=>⟨(d i x y hx hy).1,(d i x y hx hy).2.1,(d i x y hx hy).2.2,s i x y hx hy⟩⟩
structure EqT (a b:D4):Prop where
  n:a.Name=b.Name
  f:Fl EqV a.Fields b.Fields
structure EqF (a b:P3):Prop where
  r:a.Ret=b.Ret
  n:a.Name=b.Name
  p:Fl EqV a.Params b.Params
  b:Fl EqS a.Body b.Body
structure EqP (a b:J2):Prop where
  s:Fl EqT a.Structs b.Structs
  g:Fl EqV a.Globals b.Globals
  f:Fl EqF a.Funcs b.Funcs
theorem fail_v {p q:Pos} {k:Int} : Sv (Xr Rc Eq) (Y6 p k) (Y6 q k):=rfl
theorem must_v {p q:Pos} {k:Int} : Sv (Xr Rc Eq) (I2 p k) (I2 q k):=by
  unfold I2;cases(k != 0) <;> exact rfl
theorem null_e {a b:Z8} (h:EqE a b):Q2i a=Q2i b:=by
  unfold Q2i;rw [h.k,h.m]
class Vc (P:Prop):Prop where
  out:P
theorem svq {A:Prop} (h:A:=by
  repeat' (first
    | exact Sv.ok
    | exact Sv.go
    | exact Sv.brk
    | exact trivial
    | exact Sv.er he
    | exact Sv.er ⟨he,rfl⟩
    | exact Sv.er ⟨he.1,he.2⟩
    | exact Sv.er ⟨he.1,by rw [he.2]⟩
    | exact Sv.rer ⟨he,rfl⟩
    | exact Sv.rer ⟨he.1,he.2⟩
    | exact Sv.rer ⟨he.1,by rw [he.2]⟩
    | with_reducible refine Sv.cond ?_ ?_
    | (refine Sv.loop (P:=Xr RpV Eq) ?_ ?_ (fun r r' hr=>by first | exact hr) <;> (simp only [Prod.forall]; intros; dsimp only))
    | (refine Sv.loop (P:=Xr RpV Eq) ?_ ?_ (fun r r' hr=>by first | exact hr) <;> intro s)
    | with_reducible refine Sv.bindE (by first | exact fail_v | exact must_v) (fun a => ?_) (fun e e' he => ?_)
    | with_reducible refine Sv.bindE (R:=RpV) Vc.out (fun a => ?_) (fun e e' he => ?_)
    | with_reducible refine Sv.bindE (R:=Rc) Vc.out (fun a => ?_) (fun e e' he => ?_)
    | (refine Sv.bindF (P:=Fl EqE) (R:=Rc) Vc.out (fun a b hab => ?_) (fun e e' he => ?_); simp only [hab.1])
    | (refine Sv.idx (R:=EqT) (by assumption) ?_; intro x y hx; (try simp only [EqT.n hx]); have hxf:=EqT.f hx; have hxl:=hxf.1; (try simp only [hxl]))
    | (refine Sv.idx (R:=EqF) (by assumption) ?_; intro x y hx; have hxi:=Vc.mk hx)
    | (refine Sv.idx (R:=EqS) (by assumption) ?_; intro x y hx; have hxi:=Vc.mk hx)
    | (refine Sv.idx (R:=EqC) (by assumption) ?_; intro x y hx; have hxi:=Vc.mk (EqC.bs hx); simp only [EqC.d hx,EqC.n hx])
    | (refine Sv.idx (R:=EqE) (by first | assumption | exact EqE.ks (by assumption)) ?_; intro x y hx; have hxi:=Vc.mk hx; (try simp only [EqE.k hx,EqE.o hx,EqE.n hx,EqE.m hx,EqE.t hx,EqE.l hx]))
    | (refine Sv.idx (R:=EqV) (by assumption) ?_; intro x y hx; have hxi:=Vc.mk hx; (try simp only [EqV.n hx,EqV.t hx,EqV.d hx,EqV.br hx,EqV.l hx]))
    | exact EqV.is (by assumption)
    | exact⟨rfl,fun i x y h=>by cases h⟩
    | with_reducible refine Sv.bindN (null_e (by assumption)) (fun x => ?_)
    | with_reducible refine Sv.bindS (fun x => ?_)
    | refine Sv.thn (fun s => ?_) (fun r => ?_))):A:=h
instance typeOf_v {c:Q0} {p q:Pos} {t:B3} : Vc (Sv (Xr RpV Eq) (J5 c p t) (J5 c q t)):=⟨by
  unfold J5
  dsimp only [jn]
  exact svq⟩
instance dimsOf_v {c:Q0} {a b:F2} [i:Vc (EqV a b)]:Vc (Sv (Xr RpV Eq) (D9 c a) (D9 c b)):=⟨by
  have h:=i.out
  unfold D9
  simp only [EqV.t h,EqV.d h]
  exact svq⟩
instance structs_v {c:Q0} {a b:List D4} [i:Vc (Fl EqT a b)]:Vc (Sv (Xr RpV Eq) (M6 c a) (M6 c b)):=⟨by
  have h:=i.out
  unfold M6
  simp only [h.1]
  exact svq⟩
instance varOf_v {c:Q0} {a b:F2} [i:Vc (EqV a b)]:Vc (Sv (Xr RpV Eq) (C2 c a) (C2 c b)):=⟨by
  have h:=i.out
  unfold C2
  exact svq⟩
instance named_v {c:Q0} {p q:Pos} {n:List UInt8} : Vc (Sv (Xr RpV Eq) (L4 c p n) (L4 c q n)):=⟨by
  unfold L4
  exact svq⟩
instance named2_v {c:Q0} {p q:Pos} {n:List UInt8} : Vc (Sv (Xr RpV Eq) (E9 c p n) (E9 c q n)):=⟨by
  unfold E9
  exact svq⟩
instance inits_v {c:Q0} {a b:F2} [i:Vc (EqV a b)] {k:Int} : Vc (Sv (Xr Rc (Fl EqE)) (C5 c a k) (C5 c b k)):=⟨by
  have h:=i.out
  unfold C5
  simp only [EqV.br h,EqV.l h]
  exact svq⟩
instance name_v {c:Q0} {a b:Z8} [i:Vc (EqE a b)]:Vc (Sv (Xr RpV Eq) (O9 c a) (O9 c b)):=⟨by
  have h:=i.out
  unfold O9
  dsimp only [jn]
  simp only [EqE.n h]
  exact svq⟩
instance ptrTo_v {c:Q0} {p q:Pos} {k:Int} : Vc (Sv (Xr RpV Eq) (C3 c p k) (C3 c q k)):=⟨by
  unfold C3
  exact svq⟩
instance equal_v {c:Q0} {a b:Z8} [i:Vc (EqE a b)] {u v:Z7} : Vc (Sv (Xr Rc Eq) (L5 c a u v) (L5 c b u v)):=⟨by
  have h:=i.out
  have hks:=h.ks
  unfold L5
  dsimp only [jn]
  simp only [EqE.o h]
  exact svq⟩
instance moved_v {c:Q0} {p q:Pos} {u:Z7} {t:Y4} {k:Int} : Vc (Sv (Xr Rc Eq) (C4 c p u t k) (C4 c q u t k)):=⟨by
  unfold C4
  exact svq⟩
instance wanted_v {c:Q0} {a b:Z8} [i:Vc (EqE a b)] {u:Z7} {k:Int} : Vc (Sv (Xr Rc Eq) (G8 c a u k) (G8 c b u k)):=⟨by
  have h:=i.out
  unfold G8
  exact svq⟩
instance handed_v {c:Q0} {a b:Z8} [i:Vc (EqE a b)] {u:Z7} {k:Int} : Vc (Sv (Xr Rc Eq) (D8 c a u k) (D8 c b u k)):=⟨by
  have h:=i.out
  unfold D8
  exact svq⟩
instance told_v {c:Q0} {p q:Pos} {u:Z7} : Vc (Sv (Xr RpV Eq) (M0 c p u) (M0 c q u)):=⟨by
  unfold M0
  dsimp only [jn]
  exact svq⟩
structure H3 (G:Q1d):Prop where
  asked : ∀ c a b,EqE a b→Sv (Xr RpV Eq) (G.X9 c a) (G.X9 c b)
  number : ∀ c a b,EqE a b→Sv (Xr RpV Eq) (G.X4 c a) (G.X4 c b)
  unary : ∀ c a b,EqE a b→Sv (Xr RpV Eq) (G.J4 c a) (G.J4 c b)
  both : ∀ c k a b,EqE a b→Sv (Xr RpV Eq) (G.K4 c k a) (G.K4 c k b)
  binary : ∀ c a b,EqE a b→Sv (Xr RpV Eq) (G.J0 c a) (G.J0 c b)
  lying : ∀ c a b,EqE a b→Sv (Xr RpV Eq) (G.K7 c a) (G.K7 c b)
  assign : ∀ c a b,EqE a b→Sv (Xr RpV Eq) (G.J1 c a) (G.J1 c b)
  cond : ∀ c a b,EqE a b→Sv (Xr RpV Eq) (G.G3 c a) (G.G3 c b)
  call : ∀ c a b,EqE a b→Sv (Xr RpV Eq) (G.G4 c a) (G.G4 c b)
  member : ∀ c a b,EqE a b→Sv (Xr RpV Eq) (G.K9 c a) (G.K9 c b)
  step : ∀ c a b,EqE a b→Sv (Xr RpV Eq) (G.G0 c a) (G.G0 c b)
  expr : ∀ c a b,EqE a b→Sv (Xr RpV Eq) (G.V2 c a) (G.V2 c b)
  value : ∀ c a b,EqE a b→Sv (Xr RpV Eq) (G.Z4 c a) (G.Z4 c b)
instance asked_i {G:Q1d} [I:Vc (H3 G)] {c:Q0} {a b:Z8} [i:Vc (EqE a b)]:Vc (Sv (Xr RpV Eq) (G.X9 c a) (G.X9 c b)):=⟨I.out.asked _ _ _ i.out⟩
instance number_i {G:Q1d} [I:Vc (H3 G)] {c:Q0} {a b:Z8} [i:Vc (EqE a b)]:Vc (Sv (Xr RpV Eq) (G.X4 c a) (G.X4 c b)):=⟨I.out.number _ _ _ i.out⟩
instance unary_i {G:Q1d} [I:Vc (H3 G)] {c:Q0} {a b:Z8} [i:Vc (EqE a b)]:Vc (Sv (Xr RpV Eq) (G.J4 c a) (G.J4 c b)):=⟨I.out.unary _ _ _ i.out⟩
instance both_i {G:Q1d} [I:Vc (H3 G)] {c:Q0} {k:Int} {a b:Z8} [i:Vc (EqE a b)]:Vc (Sv (Xr RpV Eq) (G.K4 c k a) (G.K4 c k b)):=⟨I.out.both _ _ _ _ i.out⟩
instance binary_i {G:Q1d} [I:Vc (H3 G)] {c:Q0} {a b:Z8} [i:Vc (EqE a b)]:Vc (Sv (Xr RpV Eq) (G.J0 c a) (G.J0 c b)):=⟨I.out.binary _ _ _ i.out⟩
instance lying_i {G:Q1d} [I:Vc (H3 G)] {c:Q0} {a b:Z8} [i:Vc (EqE a b)]:Vc (Sv (Xr RpV Eq) (G.K7 c a) (G.K7 c b)):=⟨I.out.lying _ _ _ i.out⟩
instance assign_i {G:Q1d} [I:Vc (H3 G)] {c:Q0} {a b:Z8} [i:Vc (EqE a b)]:Vc (Sv (Xr RpV Eq) (G.J1 c a) (G.J1 c b)):=⟨I.out.assign _ _ _ i.out⟩
instance cond_i {G:Q1d} [I:Vc (H3 G)] {c:Q0} {a b:Z8} [i:Vc (EqE a b)]:Vc (Sv (Xr RpV Eq) (G.G3 c a) (G.G3 c b)):=⟨I.out.cond _ _ _ i.out⟩
instance call_i {G:Q1d} [I:Vc (H3 G)] {c:Q0} {a b:Z8} [i:Vc (EqE a b)]:Vc (Sv (Xr RpV Eq) (G.G4 c a) (G.G4 c b)):=⟨I.out.call _ _ _ i.out⟩
instance member_i {G:Q1d} [I:Vc (H3 G)] {c:Q0} {a b:Z8} [i:Vc (EqE a b)]:Vc (Sv (Xr RpV Eq) (G.K9 c a) (G.K9 c b)):=⟨I.out.member _ _ _ i.out⟩
instance step_i {G:Q1d} [I:Vc (H3 G)] {c:Q0} {a b:Z8} [i:Vc (EqE a b)]:Vc (Sv (Xr RpV Eq) (G.G0 c a) (G.G0 c b)):=⟨I.out.step _ _ _ i.out⟩
instance expr_i {G:Q1d} [I:Vc (H3 G)] {c:Q0} {a b:Z8} [i:Vc (EqE a b)]:Vc (Sv (Xr RpV Eq) (G.V2 c a) (G.V2 c b)):=⟨I.out.expr _ _ _ i.out⟩
instance value_i {G:Q1d} [I:Vc (H3 G)] {c:Q0} {a b:Z8} [i:Vc (EqE a b)]:Vc (Sv (Xr RpV Eq) (G.Z4 c a) (G.Z4 c b)):=⟨I.out.value _ _ _ i.out⟩
instance asked_h {G:Q1d} [I:Vc (H3 G)] {c:Q0} {a b:Z8} [i:Vc (EqE a b)]:Vc (Sv (Xr RpV Eq) (M9 G c a) (M9 G c b)):=⟨by
  have h:=i.out
  have hks:=h.ks
  unfold M9
  try dsimp only [jn]
  try simp only [EqE.k h,EqE.o h,EqE.n h,EqE.m h,EqE.t h,EqE.l h]
  exact svq⟩
instance number_h {G:Q1d} [I:Vc (H3 G)] {c:Q0} {a b:Z8} [i:Vc (EqE a b)]:Vc (Sv (Xr RpV Eq) (N0 G c a) (N0 G c b)):=⟨by
  have h:=i.out
  have hks:=h.ks
  unfold N0
  try dsimp only [jn]
  try simp only [EqE.k h,EqE.o h,EqE.n h,EqE.m h,EqE.t h,EqE.l h]
  exact svq⟩
instance unary_h {G:Q1d} [I:Vc (H3 G)] {c:Q0} {a b:Z8} [i:Vc (EqE a b)]:Vc (Sv (Xr RpV Eq) (M5 G c a) (M5 G c b)):=⟨by
  have h:=i.out
  have hks:=h.ks
  unfold M5
  try dsimp only [jn]
  try simp only [EqE.o h]
  exact svq⟩
instance both_h {G:Q1d} [I:Vc (H3 G)] {c:Q0} {k:Int} {a b:Z8} [i:Vc (EqE a b)]:Vc (Sv (Xr RpV Eq) (H8 G c k a) (H8 G c k b)):=⟨by
  have h:=i.out
  have hks:=h.ks
  unfold H8
  try dsimp only [jn]
  try simp only [EqE.k h,EqE.o h,EqE.n h,EqE.m h,EqE.t h,EqE.l h]
  exact svq⟩
instance binary_h {G:Q1d} [I:Vc (H3 G)] {c:Q0} {a b:Z8} [i:Vc (EqE a b)]:Vc (Sv (Xr RpV Eq) (N4 G c a) (N4 G c b)):=⟨by
  have h:=i.out
  have hks:=h.ks
  unfold N4
  try dsimp only [jn]
  try simp only [EqE.o h]
  exact svq⟩
instance lying_h {G:Q1d} [I:Vc (H3 G)] {c:Q0} {a b:Z8} [i:Vc (EqE a b)]:Vc (Sv (Xr RpV Eq) (M7 G c a) (M7 G c b)):=⟨by
  have h:=i.out
  have hks:=h.ks
  unfold M7
  try dsimp only [jn]
  try simp only [EqE.k h,EqE.o h,EqE.n h,EqE.m h,EqE.t h,EqE.l h]
  exact svq⟩
instance assign_h {G:Q1d} [I:Vc (H3 G)] {c:Q0} {a b:Z8} [i:Vc (EqE a b)]:Vc (Sv (Xr RpV Eq) (N5 G c a) (N5 G c b)):=⟨by
  have h:=i.out
  have hks:=h.ks
  unfold N5
  try dsimp only [jn]
  try simp only [EqE.o h]
  exact svq⟩
instance cond_h {G:Q1d} [I:Vc (H3 G)] {c:Q0} {a b:Z8} [i:Vc (EqE a b)]:Vc (Sv (Xr RpV Eq) (H5 G c a) (H5 G c b)):=⟨by
  have h:=i.out
  have hks:=h.ks
  unfold H5
  try dsimp only [jn]
  try simp only [EqE.k h,EqE.o h,EqE.n h,EqE.m h,EqE.t h,EqE.l h]
  exact svq⟩
instance call_h {G:Q1d} [I:Vc (H3 G)] {c:Q0} {a b:Z8} [i:Vc (EqE a b)]:Vc (Sv (Xr RpV Eq) (H7 G c a) (H7 G c b)):=⟨by
  have h:=i.out
  have hks:=h.ks
  unfold H7
  try dsimp only [jn]
  try simp only [EqE.n h,EqE.l h]
  exact svq⟩
instance member_h {G:Q1d} [I:Vc (H3 G)] {c:Q0} {a b:Z8} [i:Vc (EqE a b)]:Vc (Sv (Xr RpV Eq) (N1 G c a) (N1 G c b)):=⟨by
  have h:=i.out
  have hks:=h.ks
  unfold N1
  try dsimp only [jn]
  try simp only [EqE.o h,EqE.n h]
  exact svq⟩
instance step_h {G:Q1d} [I:Vc (H3 G)] {c:Q0} {a b:Z8} [i:Vc (EqE a b)]:Vc (Sv (Xr RpV Eq) (A8 G c a) (A8 G c b)):=⟨by
  have h:=i.out
  have hks:=h.ks
  unfold A8
  try dsimp only [jn]
  try simp only [EqE.k h,EqE.o h]
  exact svq⟩
instance expr_h {G:Q1d} [I:Vc (H3 G)] {c:Q0} {a b:Z8} [i:Vc (EqE a b)]:Vc (Sv (Xr RpV Eq) (H4 G c a) (H4 G c b)):=⟨by
  have h:=i.out
  have hks:=h.ks
  unfold H4
  try dsimp only [jn]
  try simp only [EqE.k h,EqE.m h,EqE.t h]
  exact svq⟩
instance value_h {G:Q1d} [I:Vc (H3 G)] {c:Q0} {a b:Z8} [i:Vc (EqE a b)]:Vc (Sv (Xr RpV Eq) (M4 G c a) (M4 G c b)):=⟨by
  have h:=i.out
  have hks:=h.ks
  unfold M4
  try dsimp only [jn]
  try simp only [EqE.k h,EqE.o h,EqE.n h,EqE.m h,EqE.t h,EqE.l h]
  exact svq⟩
theorem h3 : ∀ n,H3 (R4 n)
  | 0=>⟨fun _ _ _ _=>trivial,fun _ _ _ _=>trivial,fun _ _ _ _=>trivial,fun _ _ _ _ _=>trivial,fun _ _ _ _=>trivial,fun _ _ _ _=>trivial,fun _ _ _ _=>trivial,fun _ _ _ _=>trivial,fun _ _ _ _=>trivial,fun _ _ _ _=>trivial,fun _ _ _ _=>trivial,fun _ _ _ _=>trivial,fun _ _ _ _=>trivial⟩
  | n+1=>⟨fun _ _ _ h=>(@asked_h _ ⟨h3 n⟩ _ _ _ ⟨h⟩).out,fun _ _ _ h=>(@number_h _ ⟨h3 n⟩ _ _ _ ⟨h⟩).out,fun _ _ _ h=>(@unary_h _ ⟨h3 n⟩ _ _ _ ⟨h⟩).out,fun _ _ _ _ h=>(@both_h _ ⟨h3 n⟩ _ _ _ _ ⟨h⟩).out,fun _ _ _ h=>(@binary_h _ ⟨h3 n⟩ _ _ _ ⟨h⟩).out,fun _ _ _ h=>(@lying_h _ ⟨h3 n⟩ _ _ _ ⟨h⟩).out,fun _ _ _ h=>(@assign_h _ ⟨h3 n⟩ _ _ _ ⟨h⟩).out,fun _ _ _ h=>(@cond_h _ ⟨h3 n⟩ _ _ _ ⟨h⟩).out,fun _ _ _ h=>(@call_h _ ⟨h3 n⟩ _ _ _ ⟨h⟩).out,fun _ _ _ h=>(@member_h _ ⟨h3 n⟩ _ _ _ ⟨h⟩).out,fun _ _ _ h=>(@step_h _ ⟨h3 n⟩ _ _ _ ⟨h⟩).out,fun _ _ _ h=>(@expr_h _ ⟨h3 n⟩ _ _ _ ⟨h⟩).out,fun _ _ _ h=>(@value_h _ ⟨h3 n⟩ _ _ _ ⟨h⟩).out⟩
instance number_v {c:Q0} {a b:Z8} [i:Vc (EqE a b)]:Vc (Sv (Xr RpV Eq) (X4 c a) (X4 c b)):=⟨(h3 NN).number _ _ _ i.out⟩
instance value_v {c:Q0} {a b:Z8} [i:Vc (EqE a b)]:Vc (Sv (Xr RpV Eq) (Z4 c a) (Z4 c b)):=⟨(h3 NN).value _ _ _ i.out⟩
instance expr_v {c:Q0} {a b:Z8} [i:Vc (EqE a b)]:Vc (Sv (Xr RpV Eq) (V2 c a) (V2 c b)):=⟨(h3 NN).expr _ _ _ i.out⟩
instance asked_v {c:Q0} {a b:Z8} [i:Vc (EqE a b)]:Vc (Sv (Xr RpV Eq) (X9 c a) (X9 c b)):=⟨(h3 NN).asked _ _ _ i.out⟩
instance data_v {c:Q0} {a b:F2} [i:Vc (EqV a b)] {k:Int} : Vc (Sv (Xr RpV Eq) (R1 c a k) (R1 c b k)):=⟨by
  have h:=i.out
  unfold R1
  try dsimp only [jn]
  try simp only [EqV.n h,EqV.t h,EqV.d h,EqV.br h,EqV.l h]
  exact svq⟩
instance global_v {c:Q0} {a b:F2} [i:Vc (EqV a b)]:Vc (Sv (Xr RpV Eq) (H0 c a) (H0 c b)):=⟨by
  have h:=i.out
  unfold H0
  try dsimp only [jn]
  try simp only [EqV.n h]
  exact svq⟩
instance header_v {c:Q0} {a b:P3} [i:Vc (EqF a b)]:Vc (Sv (Xr RpV Eq) (A9 c a) (A9 c b)):=⟨by
  have h:=i.out
  have hp:=h.p
  have hl:=hp.1
  unfold A9
  try dsimp only [jn]
  simp only [h.r,h.n,hl]
  exact svq⟩
instance main_v {c:Q0} {a b:List P3} [i:Vc (Fl EqF a b)]:Vc (Sv (Xr RpV Eq) (I3 c a) (I3 c b)):=⟨by
  have h:=i.out
  unfold I3
  exact svq⟩
instance declare_v {c:Q0} {p q:Pos} {n:List UInt8} {k:Int} : Vc (Sv (Xr RpV Eq) (P0 c p n k) (P0 c q n k)):=⟨by
  unfold P0
  exact svq⟩
instance alone_v {c:Q0} {a b:Z8} [i:Vc (EqE a b)]:Vc (Sv (Xr RpV Eq) (P1 c a) (P1 c b)):=⟨by
  have h:=i.out
  unfold P1
  try dsimp only [jn]
  exact svq⟩
instance variable_v {c:Q0} {a b:F2} [i:Vc (EqV a b)]:Vc (Sv (Xr RpV Eq) (P9 c a) (P9 c b)):=⟨by
  have h:=i.out
  unfold P9
  try dsimp only [jn]
  try simp only [EqV.n h]
  exact svq⟩
instance one_v {c:Q0} {k:Int} {a b:Z8} [i:Vc (EqE a b)]:Vc (Sv (Xr RpV Eq) (A4 c k a) (A4 c k b)):=⟨by
  have h:=i.out
  unfold A4
  exact svq⟩
instance answer_v {c:Q0} {a b:U0} [i:Vc (EqS a b)]:Vc (Sv (Xr RpV Eq) (H9 c a) (H9 c b)):=⟨by
  have h:=i.out
  have ha:=h.a1
  have hb:=h.b1
  have hc:=h.c1
  have hv:=h.v1
  have hs:=h.s1
  have he1:=h.e1
  have hsi:=Vc.mk hs
  have hei:=Vc.mk he1
  have hd:=h.d1
  unfold H9
  try simp only [ha.1]
  exact svq⟩
structure H6 (G:Z1o):Prop where
  block : ∀ c a b,Fl EqS a b→Sv (Xr RpV Eq) (G.X7 c a) (G.X7 c b)
  looped : ∀ c a b,Fl EqS a b→Sv (Xr RpV Eq) (G.U2 c a) (G.U2 c b)
  around : ∀ c a b,EqS a b→Sv (Xr RpV Eq) (G.J7 c a) (G.J7 c b)
  choose : ∀ c a b,EqS a b→Sv (Xr RpV Eq) (G.J6 c a) (G.J6 c b)
  stmt : ∀ c a b,EqS a b→Sv (Xr RpV Eq) (G.F6 c a) (G.F6 c b)
  acts : ∀ c a b,Fl EqS a b→Sv (Xr RpV Eq) (G.K1 c a) (G.K1 c b)
instance block_i {G:Z1o} [I:Vc (H6 G)] {c:Q0} {a b:List U0} [i:Vc (Fl EqS a b)]:Vc (Sv (Xr RpV Eq) (G.X7 c a) (G.X7 c b)):=⟨I.out.block _ _ _ i.out⟩
instance looped_i {G:Z1o} [I:Vc (H6 G)] {c:Q0} {a b:List U0} [i:Vc (Fl EqS a b)]:Vc (Sv (Xr RpV Eq) (G.U2 c a) (G.U2 c b)):=⟨I.out.looped _ _ _ i.out⟩
instance around_i {G:Z1o} [I:Vc (H6 G)] {c:Q0} {a b:U0} [i:Vc (EqS a b)]:Vc (Sv (Xr RpV Eq) (G.J7 c a) (G.J7 c b)):=⟨I.out.around _ _ _ i.out⟩
instance choose_i {G:Z1o} [I:Vc (H6 G)] {c:Q0} {a b:U0} [i:Vc (EqS a b)]:Vc (Sv (Xr RpV Eq) (G.J6 c a) (G.J6 c b)):=⟨I.out.choose _ _ _ i.out⟩
instance stmt_i {G:Z1o} [I:Vc (H6 G)] {c:Q0} {a b:U0} [i:Vc (EqS a b)]:Vc (Sv (Xr RpV Eq) (G.F6 c a) (G.F6 c b)):=⟨I.out.stmt _ _ _ i.out⟩
instance acts_i {G:Z1o} [I:Vc (H6 G)] {c:Q0} {a b:List U0} [i:Vc (Fl EqS a b)]:Vc (Sv (Xr RpV Eq) (G.K1 c a) (G.K1 c b)):=⟨I.out.acts _ _ _ i.out⟩
instance block_h {G:Z1o} [I:Vc (H6 G)] {c:Q0} {a b:List U0} [i:Vc (Fl EqS a b)]:Vc (Sv (Xr RpV Eq) (M8 G c a) (M8 G c b)):=⟨by
  have h:=i.out
  unfold M8
  try dsimp only [jn]
  try simp only [h.1]
  exact svq⟩
instance looped_h {G:Z1o} [I:Vc (H6 G)] {c:Q0} {a b:List U0} [i:Vc (Fl EqS a b)]:Vc (Sv (Xr RpV Eq) (N2 G c a) (N2 G c b)):=⟨by
  have h:=i.out
  unfold N2
  try dsimp only [jn]
  try simp only [h.1]
  exact svq⟩
instance around_h {G:Z1o} [I:Vc (H6 G)] {c:Q0} {a b:U0} [i:Vc (EqS a b)]:Vc (Sv (Xr RpV Eq) (N6 G c a) (N6 G c b)):=⟨by
  have h:=i.out
  have ha:=h.a1
  have hb:=h.b1
  have hc:=h.c1
  have hv:=h.v1
  have hs:=h.s1
  have he1:=h.e1
  have hsi:=Vc.mk hs
  have hei:=Vc.mk he1
  have hd:=h.d1
  unfold N6
  try dsimp only [jn]
  try simp only [ha.1,hb.1,hc.1]
  exact svq⟩
instance choose_h {G:Z1o} [I:Vc (H6 G)] {c:Q0} {a b:U0} [i:Vc (EqS a b)]:Vc (Sv (Xr RpV Eq) (N3 G c a) (N3 G c b)):=⟨by
  have h:=i.out
  have ha:=h.a1
  have hb:=h.b1
  have hc:=h.c1
  have hv:=h.v1
  have hs:=h.s1
  have he1:=h.e1
  have hsi:=Vc.mk hs
  have hei:=Vc.mk he1
  have hd:=h.d1
  unfold N3
  try dsimp only [jn]
  try simp only [hd.1]
  exact svq⟩
instance stmt_h {G:Z1o} [I:Vc (H6 G)] {c:Q0} {a b:U0} [i:Vc (EqS a b)]:Vc (Sv (Xr RpV Eq) (A7 G c a) (A7 G c b)):=⟨by
  have h:=i.out
  have ha:=h.a1
  have hb:=h.b1
  have hc:=h.c1
  have hv:=h.v1
  have hs:=h.s1
  have he1:=h.e1
  have hsi:=Vc.mk hs
  have hei:=Vc.mk he1
  have hd:=h.d1
  unfold A7
  try dsimp only [jn]
  try simp only [h.k]
  exact svq⟩
instance acts_h {G:Z1o} [I:Vc (H6 G)] {c:Q0} {a b:List U0} [i:Vc (Fl EqS a b)]:Vc (Sv (Xr RpV Eq) (I0 G c a) (I0 G c b)):=⟨by
  have h:=i.out
  unfold I0
  try dsimp only [jn]
  try simp only [h.1]
  exact svq⟩
theorem h6 : ∀ n,H6 (Q8h n)
  | 0=>⟨fun _ _ _ _=>trivial,fun _ _ _ _=>trivial,fun _ _ _ _=>trivial,fun _ _ _ _=>trivial,fun _ _ _ _=>trivial,fun _ _ _ _=>trivial⟩
  | n+1=>⟨fun _ _ _ h=>(@block_h _ ⟨h6 n⟩ _ _ _ ⟨h⟩).out,fun _ _ _ h=>(@looped_h _ ⟨h6 n⟩ _ _ _ ⟨h⟩).out,fun _ _ _ h=>(@around_h _ ⟨h6 n⟩ _ _ _ ⟨h⟩).out,fun _ _ _ h=>(@choose_h _ ⟨h6 n⟩ _ _ _ ⟨h⟩).out,fun _ _ _ h=>(@stmt_h _ ⟨h6 n⟩ _ _ _ ⟨h⟩).out,fun _ _ _ h=>(@acts_h _ ⟨h6 n⟩ _ _ _ ⟨h⟩).out⟩
instance acts_v {c:Q0} {a b:P3} [i:Vc (EqF a b)]:Vc (Sv (Xr RpV Eq) (K1 c a.Body) (K1 c b.Body)):=⟨(h6 NN).acts _ _ _ i.out.b⟩
instance body_v {c:Q0} {k:Int} {a b:P3} [i:Vc (EqF a b)]:Vc (Sv (Xr RpV Eq) (R3 c k a) (R3 c k b)):=⟨by
  have h:=i.out
  have hp:=h.p
  have hl:=hp.1
  unfold R3
  simp only [hl]
  exact svq⟩
instance try_v {c:Q0} {a b:J2} [i:Vc (EqP a b)]:Vc (Sv (Xr RpV Eq) (S9 c a) (S9 c b)):=⟨by
  have h:=i.out
  have hs:=h.s
  have hg:=h.g
  have hf:=h.f
  have hsi:=Vc.mk hs
  have hfi:=Vc.mk hf
  unfold S9
  simp only [hg.1,hf.1]
  exact svq⟩
theorem Check_v {a b:J2} (h:EqP a b):Sv (fun x y:Z2u×Pos×Int=>x.1=y.1∧x.2.2=y.2.2) (Q1p a) (Q1p b):=by
  unfold Q1p;refine Sv.bindS fun x => ?_;refine Sv.bindE (@try_v _ _ _ ⟨h⟩).out (fun y=>⟨rfl,rfl⟩) (fun e e' he=>⟨rfl,he.1⟩)
theorem Z8.ind {P:Z8→Prop} (h : ∀ x,(∀ k ∈ x.Kids,P k)→P x) : ∀ x,P x
  | ⟨a,b,c,d,e,f,ks⟩=>h _ fun k hk=>Z8.ind h k
termination_by x=>SizeOf.sizeOf x
decreasing_by
  have:=List.sizeOf_lt_of_mem hk
  simp only [Z8.mk.sizeOf_spec]
  dsimp only at this
  omega
theorem U0.ind {P:U0→Prop} (h : ∀ x,(∀ k ∈ x.Body,P k)→(∀ k ∈ x.Else,P k)→(∀ c ∈ x.Cases,∀ k ∈ c.Body,P k)→P x) : ∀ x,P x
  | ⟨a,b,c,d,e,f,bs,es,cs⟩=>h _ (fun k hk=>U0.ind h k) (fun k hk=>U0.ind h k) (fun c hc k hk=>U0.ind h k)
termination_by x=>SizeOf.sizeOf x
decreasing_by
  · have:=List.sizeOf_lt_of_mem hk
    simp only [U0.mk.sizeOf_spec]
    dsimp only at this
    omega
  · have:=List.sizeOf_lt_of_mem hk
    simp only [U0.mk.sizeOf_spec]
    dsimp only at this
    omega
  · have h1:=List.sizeOf_lt_of_mem hk
    have h2:=List.sizeOf_lt_of_mem hc
    simp only [U0.mk.sizeOf_spec]
    dsimp only at h2
    obtain⟨c1,c2,c3,c4⟩:=c
    simp only [Y5r.mk.sizeOf_spec] at h2
    dsimp only at h1
    omega
def plE:Z8→Z8
  | ⟨a,b,c,d,e,f,ks⟩=>⟨a,⟨0,0⟩,c,d,e,f,ks.attach.map fun k=>plE k.1⟩
termination_by x=>SizeOf.sizeOf x
decreasing_by
  have:=List.sizeOf_lt_of_mem k.2
  simp only [Z8.mk.sizeOf_spec]
  omega
theorem plE_eq (x:Z8):plE x = {x with Pos:=⟨0,0⟩,Kids:=x.Kids.map plE} := by
  obtain⟨a,b,c,d,e,f,ks⟩:=x;rw [plE]
  simp
def plV (v:F2):F2 := {v with Pos:=⟨0,0⟩,Init:=v.Init.map plE}
def plS:U0→U0
  | ⟨a,b,c,d,e,f,bs,es,cs⟩=>⟨a,⟨0,0⟩,c.map plE,d.map plE,e.map plE,f.map plV,bs.attach.map fun k=>plS k.1,es.attach.map fun k=>plS k.1,cs.attach.map fun c => {c.1 with Pos:=⟨0,0⟩,Body:=c.1.Body.attach.map fun k=>plS k.1}⟩
termination_by x=>SizeOf.sizeOf x
decreasing_by
  · have:=List.sizeOf_lt_of_mem k.2
    simp only [U0.mk.sizeOf_spec]
    omega
  · have:=List.sizeOf_lt_of_mem k.2
    simp only [U0.mk.sizeOf_spec]
    omega
  · have h1:=List.sizeOf_lt_of_mem k.2
    have h2:=List.sizeOf_lt_of_mem c.2
    obtain⟨⟨c1,c2,c3,c4⟩,hc⟩:=c
    simp only [Y5r.mk.sizeOf_spec] at h2
    simp only [U0.mk.sizeOf_spec]
    dsimp only at h1
    omega
def plC (c:E8):E8 := {c with Pos:=⟨0,0⟩,Body:=c.Body.map plS}
theorem plS_eq (x:U0):plS x=⟨x.Kind,⟨0,0⟩,x.A.map plE,x.B.map plE,x.C.map plE,x.Var.map plV,x.Body.map plS,x.Else.map plS,x.Cases.map plC⟩:=by
  obtain⟨a,b,c,d,e,f,bs,es,cs⟩:=x;rw [plS]
  simp [plC]
def plT (s:D4):D4:=⟨⟨0,0⟩,s.Name,s.Fields.map plV⟩
def plF (f:P3):P3:=⟨⟨0,0⟩,f.Ret,f.Name,f.Params.map plV,f.Body.map plS⟩
def plP (p:J2):J2:=⟨p.Structs.map plT,p.Globals.map plV,p.Funcs.map plF⟩
theorem Fl.map {A:Type} {R:A→A→Prop} {f:A→A} {l:List A} (h : ∀ x ∈ l,R x (f x)):Fl R l (l.map f):=by
  refine⟨by simp,fun i x y hx hy => ?_⟩;rw [List.getElem?_map,hx] at hy;cases hy;exact h x (List.mem_of_getElem? hx)
theorem Y4a (x:Z8):EqE x (plE x):=by
  induction x using Z8.ind with
  | h x ih =>
    rw [plE_eq];have:=Fl.map (R:=EqE) (f:=plE) (l:=x.Kids) ih;exact .mk rfl rfl rfl rfl rfl this.1 this.2
theorem Y3z (v:F2):EqV v (plV v):=⟨rfl,rfl,rfl,rfl,Fl.map fun x _=>Y4a x⟩
theorem eqS_plS (x:U0):EqS x (plS x):=by
  induction x using U0.ind with
  | h x hb he hc =>
    rw [plS_eq];have b:=Fl.map (R:=EqS) (f:=plS) (l:=x.Body) hb;have e:=Fl.map (R:=EqS) (f:=plS) (l:=x.Else) he;refine .mk rfl (Fl.map fun x _=>Y4a x) (Fl.map fun x _=>Y4a x) (Fl.map fun x _=>Y4a x) (Fl.map fun x _=>Y3z x) b.1 b.2 e.1 e.2 (by simp) (fun i c d h1 h2 => ?_) (fun i c d h1 h2 => ?_)
    · dsimp only at h2
      rw [List.getElem?_map,h1] at h2;cases h2;exact⟨rfl,rfl,by simp [plC]⟩
    · dsimp only at h2
      rw [List.getElem?_map,h1] at h2;cases h2;exact(Fl.map (R:=EqS) (f:=plS) (l:=c.Body) (hc c (List.mem_of_getElem? h1))).2
theorem eqP_plP (p:J2):EqP p (plP p):=⟨Fl.map fun s _=>⟨rfl,Fl.map fun v _=>Y3z v⟩,Fl.map fun v _=>Y3z v,Fl.map fun f _=>⟨rfl,rfl,Fl.map fun v _=>Y3z v,Fl.map fun x _=>eqS_plS x⟩⟩
def Z2r {α : Type} (l:List α) (p : α → Bool):Int:=match l.findIdx? p with
  | some k=>(k:Int)
  | none => -1
theorem X1n {α : Type} (l:List α) (p : α → Bool) : -1≤Z2r l p∧Z2r l p < l.length:=by
  unfold Z2r;cases h:l.findIdx? p with
  | none=>dsimp only; omega
  | some k =>
    obtain⟨hk,_⟩:=List.findIdx?_eq_some_iff_getElem.1 h
    dsimp only
    omega
theorem Y9k {α : Type} {l:List α} {p : α → Bool} (h:0≤Z2r l p) : ∃ x,idx l (Z2r l p)=some x∧p x=true:=by
  unfold Z2r at *;cases hf:l.findIdx? p with
  | none=>rw [hf] at h; dsimp only at h; omega
  | some k =>
    obtain⟨hk,hp,_⟩:=List.findIdx?_eq_some_iff_getElem.1 hf;exact⟨l[k],B6 hk,hp⟩
theorem Z5p {α : Type} {l:List α} {p : α → Bool} {body:Int→Option (Lp Int Int)} (hl:l.length≤1000000)
    (hs : ∀ k (h:k < l.length),body (k:Int)=some (bif p l[k] then .ret (k:Int) else .go (IntKind.wrap .i64 ((k:Int)+1)))) (he:body (l.length:Int)=some (.brk (l.length:Int))) :
    ((loopM body NN 0).bind fun o=>o.thn (fun _=>some (-1:Int)) (fun r=>some r))=some (Z2r l p):=by
  refine Y6o l p (fun k=>(k:Int)) (by omega) hs he ?_;unfold Z2r;cases l.findIdx? p <;> rfl
theorem if1 {l:List U4} (hl:l.length≤1000000) (n:List UInt8):Q5u l n=some (Z2r l fun k=>k.Type_.Kind == 5&&decide (k.Type_.Name=n)):=by
  unfold Q5u;refine Z5p hl (fun k hk => ?_) (by rw [c0 (dge _)]);rw [c1 (dlt hk),B6 hk,Option.bind_some];unfold Q6r;rw [Option.bind_some];cases(l[k].Type_.Kind == 5&&decide (l[k].Type_.Name=n)) <;> rfl
theorem if2 {l:List U4} (hl:l.length≤1000000) (n:U4):Q3n l n=some (Z2r l fun k=>((k.Type_.Kind == n.Type_.Kind)&&(k.Type_.Elem == n.Type_.Elem))&&(k.Type_.Len == n.Type_.Len)&&(n.Type_.Kind != 5)):=by
  unfold Q3n;refine Z5p hl (fun k hk => ?_) (by rw [c0 (dge _)]);rw [c1 (dlt hk),B6 hk,Option.bind_some];unfold Q8j;rw [Option.bind_some];cases(((l[k].Type_.Kind == n.Type_.Kind)&&(l[k].Type_.Elem == n.Type_.Elem))&&(l[k].Type_.Len == n.Type_.Len)&&(n.Type_.Kind != 5)) <;> rfl
theorem if3 {l:List U8} (hl:l.length≤1000000):Q3m l=some (Z2r l fun k=>decide (k.Name = [])):=by
  unfold Q3m;refine Z5p hl (fun k hk => ?_) (by rw [c0 (dge _)]);rw [c1 (dlt hk),B6 hk,Option.bind_some];unfold Q8n;rw [Option.bind_some];cases(decide (l[k].Name = [])) <;> rfl
theorem Z9f (t:Z6) (n:Int):I5 t n=some (decide (0≤n∧n < t.list.length)):=by
  unfold I5
  congr 1
  by_cases h1:0≤n <;> by_cases h2:n < t.list.length <;> simp [h1,h2]
theorem I6 {α : Type} {l:List α} {n:Int} (h:0≤n∧n < l.length) : ∃ x,idx l n=some x∧x ∈ l:=by
  obtain⟨k,rfl⟩:=Int.eq_ofNat_of_zero_le h.1;have hk:k < l.length:=by omega
  exact⟨l[k],B6 hk,List.getElem_mem hk⟩
theorem X1l {α : Type} {l s:List α} {n:Int} {x : α} (h:idx l n=some x):idx (l++s) n=some x:=by
  obtain⟨h0,h1,h2⟩:=Q0u h;unfold idx;rw [if_pos h0,List.getElem?_append_left (by omega),h2]
structure KOk (l:List U4) (k:U4):Prop where
  sz:0≤k.size∧k.size≤32768
  al:0≤k.align∧k.align≤32768
  sa:k.size ≠ 0→1≤k.align
  op:k.open_=true→k.size=0
  arr:k.Type_.Kind=4→1≤k.Type_.Len ∧ ∃ e,idx l k.Type_.Elem=some e∧1≤e.size∧k.size=k.Type_.Len * e.size
  fl:k.Type_.Fields.length≤5000
structure Tab (t:Z6):Prop where
  l3:3≤t.list.length
  l4:t.list.length≤400
  k : ∀ k ∈ t.list,KOk t.list k
def Gr (t t' : Z6):Prop := ∃ s,t'.list=t.list++s
theorem Gr.refl (t:Z6):Gr t t:=⟨[],by simp⟩
theorem Gr.trans {a b c:Z6} (h:Gr a b) (g:Gr b c):Gr a c:=by
  obtain⟨s,hs⟩:=h;obtain⟨r,hr⟩:=g;exact⟨s++r,by rw [hr,hs,List.append_assoc]⟩
theorem Gr.len {t t' : Z6} (h:Gr t t'):t.list.length≤t'.list.length:=by
  obtain⟨s,hs⟩:=h;rw [hs,List.length_append];omega
theorem Gr.idx {t t' : Z6} (h:Gr t t') {n:Int} {x:U4} (hx:idx t.list n=some x):idx t'.list n=some x:=by
  obtain⟨s,hs⟩:=h;rw [hs];exact X1l hx
theorem KOk.app {l s:List U4} {k:U4} (h:KOk l k):KOk (l++s) k:=⟨h.sz,h.al,h.sa,h.op,fun e=>by
  obtain⟨h1,x,hx,h2⟩:=h.arr e
  exact⟨h1,x,X1l hx,h2⟩,h.fl⟩
theorem Y2v {t:Z6} (h:Tab t) (n:List UInt8):Q0z t n=some (Z2r t.list fun k=>k.Type_.Kind == 5&&decide (k.Type_.Name=n)):=by
  unfold Q0z;exact bnd (if1 (by have:=h.l4; omega) n) rfl
def Pt (t:Z6) (P:Int→Z6→Prop) (y:Option (Int×Int×Z6)):Prop := ∃ n e t',y=some (n,e,t')∧Tab t' ∧ Gr t t' ∧ (e=0→0≤n∧n < t'.list.length∧P n t')
theorem Y7l {t:Z6} (h:Tab t) {k:U4} (hk:KOk t.list k):Pt t (fun n t' => ∃ x,idx t'.list n=some x∧x.Type_.Kind=k.Type_.Kind∧(k.Type_.Kind ≠ 5→x.Type_.Elem=k.Type_.Elem∧x.Type_.Len=k.Type_.Len)) (Q3p t k):=by
  have l4:=h.l4;unfold Q3p;rw [if2 (by omega),Option.bind_some];have hf:=X1n t.list (fun x=>((x.Type_.Kind == k.Type_.Kind)&&(x.Type_.Elem == k.Type_.Elem))&&(x.Type_.Len == k.Type_.Len)&&(k.Type_.Kind != 5));have hh:=Y9k (l:=t.list) (p:=fun x=>((x.Type_.Kind == k.Type_.Kind)&&(x.Type_.Elem == k.Type_.Elem))&&(x.Type_.Len == k.Type_.Len)&&(k.Type_.Kind != 5))
  generalize Z2r t.list _=n at hf hh ⊢
  by_cases h0:0≤n
  · rw [c1 (dt h0)];obtain⟨x,hx,hp⟩:=hh h0
    simp only [Bool.and_eq_true,beq_iff_eq] at hp
    exact⟨n,0,t,rfl,h,Gr.refl t,fun _=>⟨h0,hf.2,x,hx,hp.1.1.1,fun _=>⟨hp.1.1.2,hp.1.2⟩⟩⟩
  · rw [c0 (df h0)]
    by_cases h1:(400:Int)≤t.list.length
    · rw [c1 (dt h1)];exact⟨0,8,t,rfl,h,Gr.refl t,fun e=>by cases e⟩
    · rw [c0 (df h1),P4 (by simp; omega),Option.bind_some];refine⟨_,_,_,rfl,⟨by simp; have:=h.l3; omega,by simp; omega,fun x hx => ?_⟩,⟨[k],rfl⟩,fun _ => ?_⟩
      · rcases List.mem_append.1 hx with hx | hx
        · exact(h.k x hx).app
        · rw [List.mem_singleton.1 hx];exact hk.app
      · have e:IntKind.wrap .i64 (((t.list ++ [k]).length:Int) - 1)=(t.list.length:Int):=by rw [List.length_append,w64 (by simp; omega)]; simp
        refine⟨by rw [e]; omega,by rw [e]; simp; omega,k,?_,rfl,fun _=>⟨rfl,rfl⟩⟩
        dsimp only
        rw [e,B6 (by simp)]
        simp
theorem X1g {t:Z6} (h:Tab t) (n:Int):Pt t (fun _ _=>True) (Q3q t n):=by
  unfold Q3q;rw [Z9f,Option.bind_some]
  by_cases h0:0≤n∧n < t.list.length
  · rw [dt h0];obtain⟨m,e,t',hy,h1,h2,h3⟩:=Y7l h (k:=⟨⟨3,n,0,[],[]⟩,4,4,false⟩) ⟨(by decide:(0:Int)≤4∧(4:Int)≤32768),(by decide:(0:Int)≤4∧(4:Int)≤32768),fun _=>(by decide:(1:Int)≤4),fun e=>(by cases e),fun e=>(by cases e),by simp⟩;exact⟨m,e,t',bnd hy rfl,h1,h2,fun he=>⟨(h3 he).1,(h3 he).2.1,trivial⟩⟩
  · rw [df h0];exact⟨0,4,t,rfl,h,Gr.refl t,fun e=>by cases e⟩
theorem X2x {t:Z6} (h:Tab t) (n m:Int):Pt t (fun _ _=>True) (Q6b t n m):=by
  unfold Q6b;rw [Z9f,Option.bind_some]
  by_cases h0:0≤n∧n < t.list.length
  · rw [dt h0];obtain⟨x,hx,hxm⟩:=I6 h0;have kx:=h.k x hxm;have hz:=kx.sz
    simp only [Bool.not_true,cond_false,hx,Option.bind_some]
    by_cases h1:x.size=0
    · rw [c1 (by rw [h1]; rfl)];exact⟨0,5,t,rfl,h,Gr.refl t,fun e=>by cases e⟩
    · rw [c0 (by simpa using h1)]
      by_cases h2:m < 1
      · rw [c1 (dt h2)];exact⟨0,1,t,rfl,h,Gr.refl t,fun e=>by cases e⟩
      · rw [c0 (df h2),show nz x.size=some () by unfold nz; rw [if_neg h1],Option.bind_some];have hdiv:Int.tdiv 32768 x.size=32768 / x.size:=Int.tdiv_eq_ediv_of_nonneg (by decide);have hd0:0≤(32768:Int) / x.size:=Int.ediv_nonneg (by decide) (by omega);have hd1:(32768:Int) / x.size≤32768:=Int.ediv_le_self _ (by decide);rw [hdiv,w64 (by omega)]
        by_cases h3:(32768:Int) / x.size < m
        · rw [c1 (dt h3)];exact⟨0,2,t,rfl,h,Gr.refl t,fun e=>by cases e⟩
        · rw [c0 (df h3)]
          have hmul:m * x.size≤32768:=by
            have h4:m * x.size≤(32768 / x.size) * x.size:=Int.mul_le_mul_of_nonneg_right (by omega) (by omega);have h5:=Int.ediv_mul_le (32768:Int) h1;omega
          have hmul0:1≤m * x.size:=by
            have:=Int.mul_le_mul (show (1:Int)≤m by omega) (show (1:Int)≤x.size by omega) (by decide) (by omega);omega
          rw [w64 (by omega)];obtain⟨m',e,t',hy,g1,g2,g3⟩:=Y7l h (k:=⟨⟨4,n,m,[],[]⟩,m * x.size,x.align,false⟩) ⟨by dsimp only; omega,kx.al,fun _=>kx.sa h1,fun e=>(by cases e),fun _=>⟨by dsimp only; omega,x,hx,by omega,rfl⟩,by simp⟩;exact⟨m',e,t',bnd hy rfl,g1,g2,fun he=>⟨(g3 he).1,(g3 he).2.1,trivial⟩⟩
  · rw [df h0];exact⟨0,4,t,rfl,h,Gr.refl t,fun e=>by cases e⟩
theorem open_any {t:Z6} (h:Tab t) (n:List UInt8) : ∃ m e t',Q6z t n=some (m,e,t')∧Tab t' := by
  unfold Q6z
  by_cases h0:n = []
  · rw [c1 (dt h0)]; exact⟨_,_,_,rfl,h⟩
  · rw [c0 (df h0),Y2v h,Option.bind_some]
    by_cases h1:0≤Z2r t.list fun k=>k.Type_.Kind == 5&&decide (k.Type_.Name=n)
    · rw [c1 (dt h1)]; exact⟨_,_,_,rfl,h⟩
    · rw [c0 (df h1)];obtain⟨m',e,t',hy,g1,g2,g3⟩:=Y7l h (k:=⟨⟨5,0,0,n,[]⟩,0,0,true⟩) ⟨(by decide:(0:Int)≤0∧(0:Int)≤32768),(by decide:(0:Int)≤0∧(0:Int)≤32768),fun e=>absurd rfl e,fun _=>rfl,fun e=>(by cases e),by simp⟩;exact⟨m',e,t',bnd hy rfl,g1⟩
theorem find_any {t:Z6} (h:Tab t) (n:List UInt8) : ∃ m e,Q7a t n=some (m,e):=by
  unfold Q7a;rw [Y2v h,Option.bind_some]
  by_cases h1:(Z2r t.list fun k=>k.Type_.Kind == 5&&decide (k.Type_.Name=n)) < 0
  · rw [c1 (dt h1)]; exact⟨_,_,rfl⟩
  · rw [c0 (df h1)]; exact⟨_,_,rfl⟩
def szT (t:Z6) (n:Int):Int:=match idx t.list n with
  | some x=>x.size
  | none=>0
theorem Z5o {α : Type} {l:List α} {n:Int} (h : ¬ (0≤n∧n < l.length)):idx l n=none:=by
  cases e:idx l n with
  | none=>rfl
  | some x=>exact absurd ⟨(Q0u e).1,(Q0u e).2.1⟩ h
theorem Q4r (t:Z6) (n:Int):U1 t n=some (szT t n):=by
  unfold U1 szT;rw [Z9f,Option.bind_some]
  by_cases h0:0≤n∧n < t.list.length
  · obtain⟨x,hx,_⟩:=I6 h0;rw [dt h0,hx]
    rfl
  · rw [df h0,Z5o h0]
    rfl
def alT (t:Z6) (n:Int):Int:=match idx t.list n with
  | some x=>x.align
  | none=>0
theorem Y9y (t:Z6) (n:Int):Q1a t n=some (alT t n):=by
  unfold Q1a alT;rw [Z9f,Option.bind_some]
  by_cases h0:0≤n∧n < t.list.length
  · obtain⟨x,hx,_⟩:=I6 h0;rw [dt h0,hx]
    rfl
  · rw [df h0,Z5o h0]
    rfl
theorem X0g {t:Z6} (h:Tab t) (n:Int):0≤szT t n∧szT t n≤32768:=by
  unfold szT
  by_cases h0:0≤n∧n < t.list.length
  · obtain⟨x,hx,hm⟩:=I6 h0;rw [hx];exact(h.k x hm).sz
  · rw [Z5o h0]; decide
theorem alT_ok {t:Z6} (h:Tab t) (n:Int):0≤alT t n∧alT t n≤32768∧(szT t n ≠ 0→1≤alT t n):=by
  unfold alT szT
  by_cases h0:0≤n∧n < t.list.length
  · obtain⟨x,hx,hm⟩:=I6 h0;rw [hx];exact⟨(h.k x hm).al.1,(h.k x hm).al.2,(h.k x hm).sa⟩
  · rw [Z5o h0]; decide
theorem Gr.sz {t t' : Z6} (h:Gr t t') {n:Int} (hn:0≤n∧n < t.list.length):szT t' n=szT t n:=by
  obtain⟨x,hx,_⟩:=I6 hn;unfold szT;rw [h.idx hx,hx]
theorem Y9p {l:List U8} (h:l.length≤5000):Q8g l=some l:=by
  unfold Q8g;rw [P4 (by simp; omega)]
  rfl
def tyT (t:Z6) (n:Int):Q6f×Int:=match idx t.list n with
  | some x=>(x.Type_,0)
  | none=>(⟨0,0,0,[],[]⟩,4)
theorem Z4i {t:Z6} (h:Tab t) (n:Int):P6 t n=some (tyT t n):=by
  unfold P6 tyT;rw [Z9f,Option.bind_some]
  by_cases h0:0≤n∧n < t.list.length
  · obtain⟨x,hx,hm⟩:=I6 h0;rw [dt h0,c0 (b := !true) rfl,hx];refine bnd (x:=x) rfl ?_;exact bnd (Y9p (h.k x hm).fl) rfl
  · rw [df h0,Z5o h0]
    rfl
theorem Z1g (t:Z6) (n:Int) : ∃ b,B5 t n=some b:=by
  unfold B5;rw [Z9f,Option.bind_some]
  by_cases h0:0≤n∧n < t.list.length
  · obtain⟨x,hx,hm⟩:=I6 h0;rw [dt h0,hx];exact⟨_,rfl⟩
  · rw [df h0];exact⟨_,rfl⟩
theorem X2k {t:Z6} (h:Tab t) (n:Int) (nm:List UInt8) : ∃ f e,Q3c t n nm=some (f,e):=by
  unfold Q3c;rw [Z9f,Option.bind_some]
  by_cases h0:0≤n∧n < t.list.length
  · obtain⟨x,hx,hm⟩:=I6 h0;rw [dt h0]
    simp only [Bool.not_true,cond_false,hx,Option.bind_some]
    cases x.Type_.Kind != 5 with
    | true=>exact⟨_,_,rfl⟩
    | false =>
      have hfl:=(h.k x hm).fl;refine Exists.elim (Q3b (body:=fun(x1:Int)=>(bif decide (x1 < (List.length x.Type_.Fields:Int)) then ((idx x.Type_.Fields x1).bind fun u3=>bif decide (u3.Name=nm) then (some (Lp.ret (u3,(0:Int)))) else (some (Lp.go (IntKind.wrap .i64 (x1+1))))) else (some (Lp.brk x1)):Option (Lp (Int) (U8×Int)))) (n:=NN) (s:=0) (fun s=>0≤s∧s≤x.Type_.Fields.length) (fun s=>x.Type_.Fields.length - s.toNat) (fun o=>(∃ s,o = .brk s) ∨ ∃ r,o = .ret r) ⟨by omega,by omega⟩ (Q9u (by omega)) ?_) ?_
      · rintro s ⟨s0,s1⟩
        by_cases hs:s < x.Type_.Fields.length
        · rw [c1 (dt hs)];obtain⟨f,hf,_⟩:=I6 ⟨s0,hs⟩;rw [hf,Option.bind_some];cases decide (f.Name=nm) with
          | true=>exact⟨_,rfl,.inr ⟨_,rfl⟩⟩
          | false=>exact⟨_,rfl,⟨by rw [w64 (by omega)]; omega,by rw [w64 (by omega)]; omega⟩,by rw [w64 (by omega)]; omega⟩
        · rw [c0 (df hs)]; exact⟨_,rfl,.inl ⟨_,rfl⟩⟩
      · rintro o ⟨ho,hp⟩;rw [c0 rfl,ho,Option.bind_some]
        rcases hp with ⟨s,rfl⟩ | ⟨⟨f,e⟩,rfl⟩
        · exact⟨_,_,rfl⟩
        · exact⟨f,e,rfl⟩
  · rw [df h0];exact⟨_,_,rfl⟩
def Er (r:Z3):Prop:=Pn r.pos∧r.e ≠ 0
def Ep (r:Z3×Q0):Prop:=Er r.1
def Og {E A:Type} (q:E→Prop) (y:Option (Except E A)) (p:A→Prop):Prop := ∃ z,y=some z∧match z with
  | .error e=>q e
  | .ok x=>p x
theorem Og.ok {E A:Type} {q:E→Prop} {x:A} {p:A→Prop} (h:p x):Og q (some (Except.ok x)) p:=⟨_,rfl,h⟩
theorem Og.err {E A:Type} {q:E→Prop} {e:E} {p:A→Prop} (h:q e):Og q (some (Except.error (α := A) e)) p:=⟨_,rfl,h⟩
theorem Og.mono {E A:Type} {q:E→Prop} {y:Option (Except E A)} {p r:A→Prop} (h:Og q y p) (hp : ∀ x,p x→r x):Og q y r:=by
  obtain⟨z,e,hz⟩:=h;refine⟨z,e,?_⟩;cases z with
  | error e=>exact hz
  | ok x=>exact hp x hz
theorem Og.bind {E E' A B:Type} {q:E→Prop} {q' : E' → Prop} {y:Option (Except E A)} {p:A→Prop} {f:A→Option (Except E' B)} {k:E→Option (Except E' B)} {r:B→Prop} (h:Og q y p) (hf : ∀ x,p x→Og q' (f x) r) (hk : ∀ e,q e→Og q' (k e) r):Og q' (y.bind fun z=>exC z f k) r:=by
  obtain⟨z,ez,hz⟩:=h;rw [ez,Option.bind_some];cases z with
  | error e=>exact hk e hz
  | ok x=>exact hf x hz
theorem Og.step {E A B:Type} {q:E→Prop} {m:Option B} {x:B} {f:B→Option (Except E A)} {p:A→Prop} (h:m=some x) (k:Og q (f x) p):Og q (m.bind f) p:=by subst h; exact k
theorem Rn.bindG {E A S R:Type} {q:E→Prop} {y:Option (Except E A)} {p:A→Prop} {f:A→Option (Lp S R)} {k:E→Option (Lp S R)} {P:Lp S R→Prop} (h:Og q y p) (hf : ∀ x,p x→Rn (f x) P) (hk : ∀ e,q e→Rn (k e) P):Rn (y.bind fun z=>exC z f k) P:=by
  obtain⟨z,ez,hz⟩:=h;rw [ez,Option.bind_some];cases z with
  | error x=>exact hk x hz
  | ok x=>exact hf x hz
def NxG {S R E A:Type} (I:S→Prop) (μ : S→Nat) (s:S) (f:Lp S R→Option (Except E A)) (q:E→Prop) (p:A→Prop):Lp S R→Prop
  | .go s' => I s' ∧ μ s' < μ s
  | .brk s' => Og q (f (.brk s')) p
  | .ret r=>Og q (f (.ret r)) p
theorem Og.loop {S R E A:Type} {body:S→Option (Lp S R)} {f:Lp S R→Option (Except E A)} {q:E→Prop} {p:A→Prop} {s:S} (I:S→Prop) (μ : S→Nat) (hI:I s) (hn : μ s < 2000000) (hs : ∀ s,I s→Rn (body s) (NxG I μ s f q p)):Og q ((loopM body NN s).bind f) p:=by
  obtain⟨o,ho,hp⟩:=Q3b I μ (fun o=>Og q (f o) p) hI (Q9u (by omega)) (fun s h=>by
    obtain⟨z,e,hz⟩:=hs s h;exact⟨z,e,by cases z <;> exact hz⟩)
  exact Og.step ho hp
theorem Y7v {p:Pos} {k:Int} (hp:Pn p) (hk:k ≠ 0):Og Er (Y6 p k) (fun _=>False):=Og.err ⟨hp,hk⟩
theorem must_g {p:Pos} {k:Int} (hp:Pn p):Og Er (I2 p k) (fun _=>k=0):=by
  unfold I2
  by_cases h:k=0
  · rw [c0 (by rw [h]; rfl)];exact Og.ok h
  · rw [c1 (by simpa using h)];exact Og.bind (Y7v hp h) (fun _ h=>h.elim) (fun e he=>Og.err he)
/-! Structs. -/
theorem if4 {l:List U8} (hl:l.length≤1000000) (t:Z6):Q3l l t=some (Z2r l fun f => !decide (0≤f.Type_∧f.Type_ < t.list.length)):=by
  unfold Q3l;refine Z5p hl (fun k hk => ?_) (by rw [c0 (dge _)]);rw [c1 (dlt hk),B6 hk,Option.bind_some];unfold Q8m;rw [Z9f,Option.bind_some,Option.bind_some];cases decide (0≤l[k].Type_∧l[k].Type_ < t.list.length) <;> rfl
theorem if5 {l:List U8} (hl:l.length≤1000000) (t:Z6):Q3k l t=some (Z2r l fun f=>szT t f.Type_ == 0):=by
  unfold Q3k;refine Z5p hl (fun k hk => ?_) (by rw [c0 (dge _)]);rw [c1 (dlt hk),B6 hk,Option.bind_some];unfold Q8l;rw [Q4r,Option.bind_some,Option.bind_some];cases(szT t l[k].Type_ == 0) <;> rfl
theorem if6 {l:List U8} (hl:l.length≤1000000) (n:U8):Q3j l n=some (Z2r l fun f=>decide (f.Name=n.Name)):=by
  unfold Q3j;refine Z5p hl (fun k hk => ?_) (by rw [c0 (dge _)]);rw [c1 (dlt hk),B6 hk,Option.bind_some];unfold Q8k;rw [Option.bind_some];cases(decide (l[k].Name=n.Name)) <;> rfl
theorem X2l {α : Type} {l:List α} {p : α → Bool} (h : ¬ 0≤Z2r l p) : ∀ x ∈ l,p x=false:=by
  unfold Z2r at h;cases e:l.findIdx? p with
  | none => 
    rw [List.findIdx?_eq_none_iff] at e;exact e
  | some k=>rw [e] at h; exact absurd (Int.natCast_nonneg k) h
theorem may_any (t:Z6) {l:List U8} (hl:l.length≤5000) : ∃ e,Q7x t l=some e∧(e=0→l ≠ [] ∧ ∀ f ∈ l,szT t f.Type_ ≠ 0):=by
  unfold Q7x
  by_cases h0:l = []
  · rw [c1 (by rw [h0]; rfl)];exact⟨1,rfl,fun e=>by cases e⟩
  · have hn:((l.length:Int) == 0)=false:=beq_eq_false_iff_ne.2 (by
      intro e;exact h0 (List.length_eq_zero_iff.1 (by omega)))
    rw [c0 hn];unfold Q5q;rw [if3 (by omega),Option.bind_some,Option.bind_some]
    by_cases h1:0≤Z2r l fun k=>decide (k.Name = [])
    · rw [c1 (dt h1)]; exact⟨1,rfl,fun e=>by cases e⟩
    rw [c0 (df h1)];unfold Q3w;rw [if4 (by omega),Option.bind_some,Option.bind_some]
    by_cases h2:0≤Z2r l fun f => !decide (0≤f.Type_∧f.Type_ < t.list.length)
    · rw [c1 (dt h2)]; exact⟨4,rfl,fun e=>by cases e⟩
    rw [c0 (df h2)];unfold Q3v;rw [if5 (by omega),Option.bind_some,Option.bind_some]
    by_cases h3:0≤Z2r l fun f=>szT t f.Type_ == 0
    · rw [c1 (dt h3)]; exact⟨5,rfl,fun e=>by cases e⟩
    rw [c0 (df h3)];have hz:l ≠ [] ∧ ∀ f ∈ l,szT t f.Type_ ≠ 0:=⟨h0,fun f hf=>by simpa using X2l h3 f hf⟩;refine Exists.elim (Q3b (body:=fun(x1:Int)=>(bif decide (x1 < (List.length l:Int)) then ((idx l x1).bind fun u1=>(sub l 0 x1).bind fun u2=>(Q0t u2 u1).bind fun y4=>bif y4 then (some (Lp.ret (6:Int))) else (some (Lp.go (IntKind.wrap .i64 (x1+1))))) else (some (Lp.brk x1)):Option (Lp (Int) (Int)))) (n:=NN) (s:=0) (fun s=>0≤s∧s≤l.length) (fun s=>l.length - s.toNat) (fun o=>(∃ s,o = .brk s) ∨ o = .ret 6) ⟨by omega,by omega⟩ (Q9u (by omega)) ?_) ?_
    · rintro s ⟨s0,s1⟩
      by_cases hs:s < l.length
      · rw [c1 (dt hs)];obtain⟨f,hf,_⟩:=I6 ⟨s0,hs⟩;obtain⟨k,rfl⟩:=Int.eq_ofNat_of_zero_le s0;rw [hf,Option.bind_some,show sub l 0 (k:Int)=some (l.take k) by unfold sub; rw [if_pos (by omega)]; simp,Option.bind_some];unfold Q0t;rw [if6 (by rw [List.length_take]; omega),Option.bind_some,Option.bind_some];cases decide (0≤Z2r (l.take k) fun g=>decide (g.Name=f.Name)) with
        | true=>exact⟨_,rfl,.inr rfl⟩
        | false=>exact⟨_,rfl,⟨by rw [w64 (by omega)]; omega,by rw [w64 (by omega)]; omega⟩,by rw [w64 (by omega)]; omega⟩
      · rw [c0 (df hs)]; exact⟨_,rfl,.inl ⟨_,rfl⟩⟩
    · rintro o ⟨ho,hp⟩;rw [ho,Option.bind_some]
      rcases hp with ⟨s,rfl⟩ | rfl
      · exact⟨0,rfl,fun _=>hz⟩
      · exact⟨6,rfl,fun e=>by cases e⟩
theorem up_any {x a:Int} (hx:0≤x∧x≤100000) (ha:1≤a∧a≤32768) : ∃ y,Z6m x a=some y∧x≤y∧y < x+a:=by
  unfold Z6m;rw [show nz a=some () by unfold nz; rw [if_neg (by omega)],Option.bind_some,w64 (x:=x+a) (by omega),w64 (x:=x+a - 1) (by omega),Int.tdiv_eq_ediv_of_nonneg (by omega)];have h1:=Int.ediv_mul_le (x+a - 1) (show a ≠ 0 by omega);have h2:=Int.lt_ediv_add_one_mul_self (x+a - 1) (show 0 < a by omega);have h3:((x+a - 1) / a+1) * a=(x+a - 1) / a * a+a:=by rw [Int.add_mul]; omega
  have h4:0≤(x+a - 1) / a:=Int.ediv_nonneg (by omega) (by omega);have h5:(x+a - 1) / a≤x+a - 1:=Int.ediv_le_self _ (by omega);rw [w64 (x:=(x+a - 1) / a) (by omega),w64 (by omega)];exact⟨_,rfl,by omega,by omega⟩
theorem Y3y {α : Type} {l:List α} {n m:Int} {x : α} (hn:0≤n):idx (List.set l (Int.toNat n) x) m=if m=n∧n < l.length then some x else idx l m:=by
  unfold idx
  by_cases h0:0≤m
  · rw [if_pos h0,if_pos h0,List.getElem?_set]
    by_cases e:n.toNat=m.toNat
    · have e2:m=n:=by omega
      subst e2;rw [if_pos e]
      by_cases hl:m < l.length
      · rw [if_pos (by omega),if_pos ⟨rfl,hl⟩]
      · rw [if_neg (by omega),if_neg (fun h=>hl h.2)];exact(List.getElem?_eq_none (by omega)).symm
    · rw [if_neg e,if_neg (fun h=>e (by rw [h.1]))]
  · rw [if_neg h0,if_neg h0,if_neg (fun h=>h0 (by omega))]
theorem Y3w {α : Type} {l:List α} {n:Nat} {x y : α} (h:y ∈ List.set l n x):y ∈ l ∨ y=x:=List.mem_or_eq_of_mem_set h
theorem Tab.close {t:Z6} (h:Tab t) {n:Int} {u:U4} (hn:0≤n∧n < t.list.length) (hu:idx t.list n=some u) (hk:u.Type_.Kind=5) (ho:u.size=0) {v:U4} (hv:KOk t.list v) (hv5:v.Type_.Kind=5):Tab ⟨List.set t.list n.toNat v⟩:=by
  have keep : ∀ x,KOk t.list x→KOk (List.set t.list n.toNat v) x:=fun x hx=>⟨hx.sz,hx.al,hx.sa,hx.op,fun e=>by
    obtain⟨h1,y,hy,h2,h3⟩:=hx.arr e;refine⟨h1,y,?_,h2,h3⟩;rw [Y3y hn.1];rw [if_neg]
    · exact hy
    · rintro⟨e1,_⟩;rw [e1,hu] at hy;cases hy;omega,hx.fl⟩
  refine⟨by simpa using h.l3,by simpa using h.l4,fun x hx => ?_⟩
  rcases Y3w hx with hx | rfl
  · exact keep x (h.k x hx)
  · exact keep _ hv
theorem X0h {t:Z6} (h:Tab t) (nm:List UInt8) {l:List U8} (hl:l.length≤5000) : ∃ n e t',Q4w t nm l=some (n,e,t')∧Tab t' := by
  have l4:=h.l4;unfold Q4w;rw [Y2v h,Option.bind_some];have hf:=X1n t.list (fun k=>k.Type_.Kind == 5&&decide (k.Type_.Name=nm));have hh:=Y9k (l:=t.list) (p:=fun k=>k.Type_.Kind == 5&&decide (k.Type_.Name=nm))
  generalize Z2r t.list _=n at hf hh ⊢
  by_cases h0:n < 0
  · rw [c1 (dt h0)]; exact⟨_,_,_,rfl,h⟩
  rw [c0 (df h0)];obtain⟨u,hu,hp⟩:=hh (by omega)
  simp only [Bool.and_eq_true,beq_iff_eq] at hp
  have hum:u ∈ t.list:=by
    obtain⟨x,hx,hm⟩:=I6 (l:=t.list) (n:=n) ⟨by omega,hf.2⟩;rw [hu] at hx; cases hx; exact hm
  rw [hu,Option.bind_some];cases hop:u.open_ with
  | false=>exact⟨_,_,_,rfl,h⟩
  | true =>
  rw [c0 (b := !true) rfl];have husz:=(h.k u hum).op hop;obtain⟨e,he,hz⟩:=may_any t hl;rw [he,Option.bind_some]
  by_cases h1:e=0
  case neg=>rw [c1 (by simpa using h1)]; exact⟨_,_,_,rfl,h⟩
  rw [c0 (by rw [h1]; rfl),Y9p hl,Option.bind_some];have hz:=(hz h1).2
  refine Exists.elim (Q3b (body:=fun(x1,x2,x3,x4)=>(bif decide (x2 < (List.length l:Int)) then ((idx x1 x2).bind fun u2=>(idx x1 x2).bind fun u3=>(Q2o u3 x4 t x3).bind fun y4=>bif !y4.1 then (some (Lp.ret ((0:Int),(2:Int),t))) else (some (Lp.go (List.set x1 (Int.toNat x2) y4.2.1,IntKind.wrap .i64 (x2+1),y4.2.2.2,y4.2.2.1)))) else (some (Lp.brk (x1,x2,x3,x4))):Option (Lp ((List U8)×Int×Int×Int) (Int×Int×Z6)))) (n:=NN) (s:=(l,(0:Int),(1:Int),(0:Int)))
    (fun s=>s.1.length=l.length∧(∀ f ∈ s.1,szT t f.Type_ ≠ 0)∧(0≤s.2.1∧s.2.1≤l.length)∧(1≤s.2.2.1∧s.2.2.1≤32768)∧(0≤s.2.2.2∧s.2.2.2≤32768)) (fun s=>l.length - s.2.1.toNat)
    (fun o=>(∃ s,o = .brk s∧s.1.length=l.length∧(1≤s.2.2.1∧s.2.2.1≤32768)∧(0≤s.2.2.2∧s.2.2.2≤32768)) ∨ o = .ret (0,2,t)) ⟨rfl,hz,by dsimp only; omega,(by decide:(1:Int)≤1∧(1:Int)≤32768),(by decide:(0:Int)≤0∧(0:Int)≤32768)⟩ (Q9u (by dsimp only; omega)) ?_) ?_
  · rintro⟨x1,x2,x3,x4⟩ ⟨i1,i2,i3,i4,i5⟩
    dsimp only at i1 i2 i3 i4 i5 ⊢
    by_cases hs:x2 < l.length
    · rw [c1 (dt hs)];obtain⟨f,hf2,hfm⟩:=I6 (l:=x1) (n:=x2) ⟨i3.1,by rw [i1]; exact hs⟩;rw [hf2,Option.bind_some,Option.bind_some];have hal:=alT_ok h f.Type_;have hsz:=X0g h f.Type_;have hne:=i2 f hfm;obtain⟨y,hy,hy1,hy2⟩:=up_any (x:=x4) (a:=alT t f.Type_) (by omega) ⟨hal.2.2 hne,hal.2.1⟩;unfold Q2o;rw [Y9y,Option.bind_some,hy,Option.bind_some,Q4r,Option.bind_some,Option.bind_some,Option.bind_some]
      dsimp only
      rw [w64 (x:=y+szT t f.Type_) (by omega)]
      by_cases hb:y+szT t f.Type_≤32768
      · rw [dt hb];refine⟨_,rfl,⟨by simpa using i1,?_,by dsimp only; rw [w64 (by omega)]; omega,by dsimp only; omega,by dsimp only; omega⟩,by dsimp only; rw [w64 (by omega)]; omega⟩;intro g hg
        rcases Y3w hg with hg | rfl
        · exact i2 g hg
        · exact hne
      · rw [df hb];exact⟨_,rfl,.inr rfl⟩
    · rw [c0 (df hs)];exact⟨_,rfl,.inl ⟨_,rfl,i1,i4,i5⟩⟩
  · rintro o ⟨ho,hp2⟩;rw [ho,Option.bind_some]
    rcases hp2 with ⟨⟨x1,x2,x3,x4⟩,rfl,j1,j2,j3⟩ | rfl
    case inr=>exact⟨_,_,_,rfl,h⟩
    dsimp only [Lp.thn] at j1 j2 j3 ⊢
    obtain⟨y,hy,hy1,hy2⟩:=up_any (x:=x4) (a:=x3) (by omega) j2;rw [hy,Option.bind_some]
    by_cases hb:(32768:Int) < y
    · rw [c1 (dt hb)]; exact⟨_,_,_,rfl,h⟩
    rw [c0 (df hb),Option.bind_some,Option.bind_some,Option.bind_some,Y3y (by omega),if_pos ⟨rfl,hf.2⟩,Option.bind_some,Y3y (by omega),if_pos ⟨rfl,by simpa using hf.2⟩,Option.bind_some,Y3y (by omega),if_pos ⟨rfl,by simpa using hf.2⟩,Option.bind_some];refine⟨_,_,_,rfl,?_⟩
    simp only [List.set_set]
    refine h.close ⟨by omega,hf.2⟩ hu hp.1 husz ⟨by dsimp only; omega,by dsimp only; omega,fun _=>j2.1,fun e=>(by cases e),fun e => ?_,by dsimp only; omega⟩ hp.1
    dsimp only at e
    rw [hp.1] at e;cases e
structure Tg (c c' : Q0):Prop where
  eq:c' = {c with t:=c'.t}
  tab:Tab c'.t
  gr:Gr c.t c'.t
theorem Tg.refl {c:Q0} (h:Tab c.t):Tg c c:=⟨rfl,h,Gr.refl _⟩
theorem Tg.mk' {c:Q0} {t:Z6} (h:Tab t) (g:Gr c.t t):Tg c {c with t:=t} := ⟨rfl,h,g⟩
theorem Tg.trans {a b c:Q0} (h:Tg a b) (g:Tg b c):Tg a c:=⟨by rw [g.eq,h.eq],g.tab,h.gr.trans g.gr⟩
theorem X0p {p:Pos} {k:Int} {c:Q0} {B:Type} {f:Unit→Option (Except (Z3×Q0) B)} {r:B→Prop} (hp:Pn p) (hf:k=0→Og Ep (f ()) r):Og Ep ((I2 p k).bind fun y=>exC y f (fun e=>some (Except.error (e,c)))) r :=
  Og.bind (must_g hp) (fun _ h=>hf h) (fun e he=>Og.err he)
theorem Z0t {p:Pos} {k:Int} {c:Q0} {B:Type} {f:Unit→Option (Except (Z3×Q0) B)} {r:B→Prop} (hp:Pn p) (hk:k ≠ 0):Og Ep ((Y6 p k).bind fun y=>exC y f (fun e=>some (Except.error (e,c)))) r :=
  Og.bind (Y7v hp hk) (fun _ h=>h.elim) (fun e he=>Og.err he)
theorem fail_l {p:Pos} {k:Int} {c:Q0} {S A B:Type} {f:Unit→Option (Lp S (Except (Z3×Q0) A))} {I:S→Prop} {μ : S→Nat} {s:S} {F:Lp S (Except (Z3×Q0) A)→Option (Except (Z3×Q0) B)} {r:B→Prop} (hp:Pn p) (hk:k ≠ 0) (hF : ∀ e,Ep e→Og Ep (F (.ret (.error e))) r):Rn ((Y6 p k).bind fun y=>exC y f (fun e=>some (Lp.ret (Except.error (e,c))))) (NxG I μ s F Ep r) :=
  Rn.bindG (Y7v hp hk) (fun _ h=>h.elim) (fun e he=>Rn.ok (hF _ he))
theorem Y4u {p:Pos} {k:Int} {c:Q0} {S A B:Type} {f:Unit→Option (Lp S (Except (Z3×Q0) A))} {I:S→Prop} {μ : S→Nat} {s:S} {F:Lp S (Except (Z3×Q0) A)→Option (Except (Z3×Q0) B)} {r:B→Prop} (hp:Pn p) (hf:k=0→Rn (f ()) (NxG I μ s F Ep r)) (hF : ∀ e,Ep e→Og Ep (F (.ret (.error e))) r):Rn ((I2 p k).bind fun y=>exC y f (fun e=>some (Lp.ret (Except.error (e,c))))) (NxG I μ s F Ep r) :=
  Rn.bindG (must_g hp) (fun _ h=>hf h) (fun e he=>Rn.ok (hF _ he))
theorem Y1j {c:Q0} (h:Tab c.t) {p:Pos} (hp:Pn p) {ty:B3} (ht:OkT ty):Og Ep (J5 c p ty) (fun x=>Tg c x.2):=by
  unfold J5
  dsimp only [jn]
  have key : ∀ x1:Int,Og Ep ((loopM (fun(x3,x4,x5)=>(bif decide (x4 < ty.Stars) then ((Q3q x5 x3).bind fun y3=>(I2 p y3.2.1).bind fun y4=>exC y4 (fun y4=>some (Lp.go (y3.1,IntKind.wrap .i64 (x4+1),y3.2.2))) (fun e2=>some (Lp.ret (Except.error (e2,{c with t:=y3.2.2}))))) else (some (Lp.brk (x3,x4,x5))):Option (Lp (Int×Int×Z6) (Except (Z3×Q0) (Int×Q0))))) NN (x1,(0:Int),c.t)).bind fun o=>o.thn (fun(x3,x4,x5)=>some (Except.ok (x3,{c with t:=x5}))) (fun r=>some r)) (fun x=>Tg c x.2):=by
    intro x1;have hst:=ht.2.2;refine Og.loop (fun s=>Tab s.2.2∧Gr c.t s.2.2∧0≤s.2.1) (fun s=>ty.Stars.toNat - s.2.1.toNat) ⟨h,Gr.refl _,Int.le_refl 0⟩ (by dsimp only; omega) ?_;rintro⟨x3,x4,x5⟩ ⟨i1,i2,i3⟩
    dsimp only at i1 i2 i3 ⊢
    by_cases hs:x4 < ty.Stars
    · rw [c1 (dt hs)];obtain⟨n,e,t',hy,g1,g2,g3⟩:=X1g i1 x3;refine Rn.step hy ?_;refine Y4u hp (fun he=>Rn.ok ⟨⟨g1,i2.trans g2,by dsimp only; rw [w64 (by omega)]; omega⟩,by dsimp only; rw [w64 (by omega)]; omega⟩) (fun e he=>Og.err he)
    · rw [c0 (df hs)];exact Rn.ok (Og.ok (Tg.mk' i1 i2))
  by_cases h1:ty.Word = [105,110,116]
  · rw [c1 (dt h1)]; exact key 1
  rw [c0 (df h1)]
  by_cases h2:ty.Word = [99,104,97,114]
  · rw [c1 (dt h2)]; exact key 2
  rw [c0 (df h2)]
  by_cases h3:ty.Word = [115,116,114,117,99,116]
  · rw [c1 (dt h3)];obtain⟨m,e,hy⟩:=find_any h ty.Name;refine Og.step hy ?_;exact X0p hp fun _=>key m
  rw [c0 (df h3)];exact key 0
theorem Y9n {c:Q0} (h:Tab c.t) {v:F2} (hv:OkV v) (hd:v.Dims.length≤5000):Og Ep (D9 c v) (fun x=>Tg c x.2):=by
  unfold D9;refine Og.bind (Y1j h hv.pos hv.ty) (fun y1 a1 => ?_) (fun e he=>Og.err he);refine Og.loop (fun s=>Tab s.2.2∧Gr c.t s.2.2 ∧ -1≤s.2.1∧s.2.1 < v.Dims.length) (fun s=>(s.2.1+1).toNat) ⟨a1.tab,a1.gr,by dsimp only; rw [w64 (by omega)]; omega,by dsimp only; rw [w64 (by omega)]; omega⟩ (by dsimp only; rw [w64 (by omega)]; omega) ?_;rintro⟨x2,x3,x4⟩ ⟨i1,i2,i3,i4⟩
  dsimp only at i1 i2 i3 i4 ⊢
  by_cases hs:0≤x3
  · rw [c1 (dt hs)];obtain⟨d,hd2,_⟩:=I6 ⟨hs,i4⟩;refine Rn.step hd2 ?_;obtain⟨n,e,t',hy,g1,g2,g3⟩:=X2x i1 x2 (IntKind.wrap .i64 d);refine Rn.step hy ?_;refine Y4u hv.pos (fun he=>Rn.ok ⟨⟨g1,i2.trans g2,by dsimp only; rw [w64 (by omega)]; omega,by dsimp only; rw [w64 (by omega)]; omega⟩,by dsimp only; rw [w64 (by omega)]; omega⟩) (fun e he=>Og.err he)
  · rw [c0 (df hs)];refine Rn.ok (Og.ok ⟨?_,i1,i2⟩)
    dsimp only
    rw [a1.eq]
theorem X1b {c:Q0} (h:Tab c.t) {v:F2} (hv:OkV v) (hd:v.Dims.length≤5000):Og Ep (C2 c v) (fun x=>Tg c x.2∧szT x.2.t x.1 ≠ 0):=by
  unfold C2;refine Og.bind (Y9n h hv hd) (fun y1 a1 => ?_) (fun e he=>Og.err he);refine Og.step (Q4r _ _) ?_
  by_cases h0:szT y1.2.t y1.1=0
  · rw [c1 (by rw [h0]; rfl)];exact Z0t hv.pos (by decide)
  · rw [c0 (by simpa using h0)];exact Og.ok ⟨a1,h0⟩
theorem Y5k {c:Q0} (h:Tab c.t) (n:Int) : ∃ k,W7 c n=some k∧(k ≠ 0→k=szT c.t n)∧0≤k∧k≤32768:=by
  unfold W7;obtain⟨b,hb⟩:=Z1g c.t n;rw [hb,Option.bind_some];cases b with
  | false=>exact⟨0,rfl,fun e=>absurd rfl e,by decide⟩
  | true =>
    have:=X0g h n;refine⟨szT c.t n,?_,fun _=>rfl,this.1,this.2⟩;rw [c0 (b := !true) rfl,Q4r]
    rfl
theorem Y8t {c:Q0} (h:Tab c.t) (nm:List UInt8) (n:Int) : ∃ s,Q1b c nm n=some s:=by
  unfold Q1b;obtain⟨k,hk,_⟩:=Y5k h n;rw [Q4r,Option.bind_some,Y9y,Option.bind_some,hk];exact⟨_,rfl⟩
def paT (t:Z6) (n:Int):Int:=if (tyT t n).1.Kind=4 then (tyT t n).1.Elem else n
theorem Y3v {c:Q0} (h:Tab c.t) (n:Int):O8 c n=some (paT c.t n):=by
  unfold O8 paT;rw [Z4i h,Option.bind_some]
  by_cases h4:(tyT c.t n).1.Kind=4
  · rw [c1 (by rw [h4]; rfl),if_pos h4]
  · rw [c0 (by simpa using h4),if_neg h4]
theorem Y0w {p:Pos} {k:Int} {B:Type} {f:Unit→Option (Except Z3 B)} {r:B→Prop} (hp:Pn p) (hk:k ≠ 0):Og Er ((Y6 p k).bind fun y=>exC y f (fun e=>some (Except.error e))) r :=
  Og.bind (Y7v hp hk) (fun _ h=>h.elim) (fun e he=>Og.err he)
theorem X1k {c:Q0} (h:Tab c.t) {v:F2} (hv:OkV v) (n:Int):Og Er (C5 c v n) (fun l=>(l = [] ∨ l=v.Init)∧(l ≠ []→szT c.t (paT c.t n) ≠ 0∧szT c.t (paT c.t n) * l.length≤szT c.t n)):=by
  unfold C5
  by_cases h0:v.Init = []
  · rw [c1 (by rw [h0]; rfl)];exact Og.ok ⟨.inl rfl,fun e=>absurd rfl e⟩
  · have hn:((v.Init.length:Int) == 0)=false:=beq_eq_false_iff_ne.2 (by
      intro e;exact h0 (List.length_eq_zero_iff.1 (by omega)))
    rw [c0 hn,Z4i h,Option.bind_some]
    by_cases h1:((tyT c.t n).1.Kind == 4)=v.Brace
    case neg =>
      rw [c1 (by simpa using h1)];exact Y0w hv.pos (by decide)
    rw [c0 (by simpa using h1),Y3v h,Option.bind_some];obtain⟨k,hk,hk1,hk2⟩:=Y5k h (paT c.t n);rw [hk,Option.bind_some]
    by_cases h2:k=0
    · rw [c1 (by rw [h2]; rfl)];exact Y0w hv.pos (by decide)
    rw [c0 (by simpa using h2)];have hkz:=hk1 h2
    by_cases h4:(tyT c.t n).1.Kind=4
    · by_cases h3:(tyT c.t n).1.Len < v.Init.length
      · rw [c1 (by rw [h4,dt h3]; rfl)];exact Y0w hv.pos (by decide)
      rw [c0 (by rw [df h3]; simp)];refine Og.ok ⟨.inr rfl,fun _=>⟨by rw [← hkz]; exact h2,?_⟩⟩;unfold paT at hkz ⊢;rw [if_pos h4] at hkz ⊢;unfold tyT at h4 h3 hkz ⊢;cases hx:idx c.t.list n with
      | none=>rw [hx] at h4; exact absurd h4 (by decide)
      | some x =>
        rw [hx] at h4 h3 hkz
        have hm:x ∈ c.t.list:=by
          obtain⟨a,b,d⟩:=Q0u hx;exact List.mem_of_getElem? d
        obtain⟨l1,e,he,he1,he2⟩:=(h.k x hm).arr h4;have e1:szT c.t n=x.size:=by unfold szT; rw [hx]
        have e2:szT c.t x.Type_.Elem=e.size:=by unfold szT; rw [he]
        dsimp only at h3 ⊢
        rw [e1,e2,he2,Int.mul_comm];exact Int.mul_le_mul_of_nonneg_right (by omega) (by omega)
    · have hb:v.Brace=false:=by rw [← h1]; simpa using h4
      have hl:=hv.br hb;rw [c0 (by simp [h4])];refine Og.ok ⟨.inr rfl,fun _=>⟨by rw [← hkz]; exact h2,?_⟩⟩;have hp:paT c.t n=n:=by unfold paT; rw [if_neg h4]
      have h1' : v.Init.length=1:=by
        have:=List.length_pos_iff.2 h0;omega
      rw [hp,h1']
      simp
def MpO (m:Option (List (List UInt8×Int))) (n:Nat):Prop := ∃ l,m=some l ∧ ∀ k v,Q5z l k=some v→0≤v∧v < n
structure Fn (f:G5):Prop where
  ty:f.types.length=f.slots.length
  le:f.slots.length≤200
  sc : ∀ m ∈ f.scopes,MpO m f.slots.length
  sl:f.scopes.length≤100000
def FnO:O3 G5→Prop
  | .nil=>True
  | .dead=>False
  | .some f=>Fn f
structure Ck (c:Q0):Prop where
  tab:Tab c.t
  gl:MpO c.globals c.gtypes.length
  co:MpO c.codes c.signs.length
  fn:FnO c.fun_
  gn:Z3y c.globals=c.gtypes.length
  cn:Z3y c.codes=c.signs.length
  ug:c.u.Globals.length=c.gtypes.length
  uc:c.u.Codes.length=c.signs.length
  lg:c.gtypes.length≤200
  lc:c.signs.length≤200
theorem Ck.tg {c c' : Q0} (h:Ck c) (g:Tg c c'):Ck c' := by
  have e:=g.eq;have t:=g.tab
  generalize c'.t=t' at e t
  subst e;exact⟨t,h.gl,h.co,h.fn,h.gn,h.cn,h.ug,h.uc,h.lg,h.lc⟩
theorem Tg.fun_eq {c c' : Q0} (g:Tg c c'):c'.fun_=c.fun_:=by rw [g.eq]
theorem Tg.back {c c' : Q0} (g:Tg c c') : {c' with fun_:=c.fun_} = c' := by
  have:=g.fun_eq;rw [← this]
inductive Dp:Nat→Y4→Prop
  | mk {n:Nat} {t:Y4} (h : ∀ k ∈ t.Kids,Dp n k) (nu:U32 t.Num) (kl:t.Kids.length≤100000):Dp (n+1) t
theorem Dp.mono {n:Nat} {t:Y4} (h:Dp n t) : ∀ {m:Nat},n≤m→Dp m t:=by
  induction h with
  | @mk n t hk nu kl ih =>
    intro m hm;obtain⟨k,rfl⟩ : ∃ k,m=k+1:=⟨m - 1,by omega⟩;exact .mk (fun x hx=>ih x hx (by omega)) nu kl
theorem Dp.k0 {n:Nat} {t:Y4} (h:t.Kids = []) (hn:1≤n) (nu:U32 t.Num:=by first | exact Z6c | exact Y0r _):Dp n t:=Dp.mono (n:=1) (.mk (n:=0) (fun k hk=>by rw [h] at hk; cases hk) nu (by rw [h]; decide)) hn
theorem Dp.k1 {n m:Nat} {t x:Y4} (h:t.Kids = [x]) (hx:Dp n x) (hm:n+1≤m) (nu:U32 t.Num:=by first | exact Z6c | exact Y0r _):Dp m t:=Dp.mono (.mk (n:=n) (fun k hk=>by rw [h,List.mem_singleton] at hk; rw [hk]; exact hx) nu (by rw [h]; simp)) hm
theorem Dp.k2 {n m:Nat} {t x y:Y4} (h:t.Kids = [x,y]) (hx:Dp n x) (hy:Dp n y) (hm:n+1≤m) (nu:U32 t.Num:=by first | exact Z6c | exact Y0r _):Dp m t:=Dp.mono (.mk (n:=n) (fun k hk=>by
  rw [h] at hk
  rcases List.mem_cons.1 hk with rfl | hk
  · exact hx
  · rw [List.mem_singleton.1 hk]; exact hy) nu (by rw [h]; simp)) hm
theorem Z5q {c:Q0} (h:Tab c.t) (n:Int) : ∃ e b,M1 c n=some (e,b):=by
  unfold M1;rw [Z4i h,Option.bind_some,Q4r,Option.bind_some];cases(tyT c.t n).1.Kind == 3 <;> exact⟨_,_,rfl⟩
theorem S8 {c:Q0} (h:Tab c.t) (n:Int) : ∃ b,Y7 c n=some b:=by
  unfold Y7;rw [Z4i h];exact⟨_,rfl⟩
theorem Z6e (c:Q0) (n:Int) : ∃ k,F0 c n=some k:=by
  unfold F0;cases n == 2 <;> exact⟨_,rfl⟩
theorem Z8t (x:Z8) : ∃ b,Q2i x=some b:=⟨_,rfl⟩
theorem Z9q {c:Q0} (h:Tab c.t) (a b:Y4) (e k:Int) : ∃ s p,S7 c a b e k=some ⟨14,k,0,0,false,s,false,p,[a,b]⟩:=by
  unfold S7;rw [Q4r];exact⟨_,_,rfl⟩
theorem Y7m {c:Q0} (h:Tab c.t) {p:Pos} (hp:Pn p) (n:Int):Og Ep (C3 c p n) (fun x=>Tg c x.2):=by
  unfold C3;obtain⟨m,e,t',hy,g1,g2,g3⟩:=X1g h n;refine Og.step hy ?_;exact X0p hp fun _=>Og.ok (Tg.mk' g1 g2)
theorem X0f {c:Q0} (h:Tab c.t) {p:Pos} (hp:Pn p) {v:Z7} {n:Nat} (hv:Dp n v.term):Og Ep (M0 c p v) (fun x=>Tg c x.2∧Dp (n+1) x.1.term):=by
  unfold M0
  dsimp only [jn]
  cases hl:v.lies with
  | false=>exact Og.ok ⟨Tg.refl h,hv.mono (by omega)⟩
  | true =>
  rw [c0 (b := !true) rfl,Z4i h,Option.bind_some,Q4r,Option.bind_some]
  by_cases h4:(tyT c.t v.n).1.Kind=4
  · rw [c1 (by rw [h4]; rfl)]
    by_cases h2:v.term.Kind=2
    · rw [c0 (by rw [h2]; rfl)];exact Og.bind (Y7m h hp _) (fun y a=>Og.ok ⟨a,hv.mono (by omega)⟩) (fun e he=>Og.err he)
    · rw [c1 (by simpa using h2)];exact Og.bind (Y7m h hp _) (fun y a=>Og.ok ⟨a,Dp.k1 rfl hv (Nat.le_refl _)⟩) (fun e he=>Og.err he)
  · rw [c0 (by simpa using h4)];obtain⟨b,hb⟩:=Z1g c.t v.n;refine Og.step hb ?_;cases b with
    | false=>rw [c1 (b := !false) rfl]; exact Z0t hp (by decide)
    | true =>
      rw [c0 (b := !true) rfl]
      by_cases h2:v.n=2
      · rw [c1 (by rw [h2]; rfl)];obtain⟨q,hq⟩:=S8 h 1;exact Og.step hq (Og.ok ⟨Tg.refl h,Dp.k1 rfl hv (Nat.le_refl _)⟩)
      · rw [c0 (by simpa using h2)];obtain⟨q,hq⟩:=S8 h v.n;exact Og.step hq (Og.ok ⟨Tg.refl h,Dp.k1 rfl hv (Nat.le_refl _)⟩)
theorem Z5g {c:Q0} (h:Tab c.t) {x:Z8} (hx:Pn x.Pos) {v:Z7} {n:Nat} (hn:1≤n) (hv:Dp n v.term) (k:Int):Og Er (G8 c x v k) (fun t=>Dp n t):=by
  unfold G8;obtain⟨b,hb⟩:=S8 h k;obtain⟨z,hz⟩:=Z8t x
  simp only [hb,hz,Option.bind_some]
  have rest:Og Er (bif (b&&(v.n == k)) then (some (Except.ok v.term)) else (bif ((!b)&&(v.n == 1)) then (some (Except.ok v.term)) else ((Y6 x.Pos 5).bind fun y6=>exC y6 (fun y6=>none) (fun e1=>some (Except.error e1))))) (fun t=>Dp n t):=by
    cases(b&&(v.n == k)) with
    | true=>exact Og.ok hv
    | false =>
      rw [c0 (b:=false) rfl];cases((!b)&&(v.n == 1)) with
      | true=>exact Og.ok hv
      | false=>rw [c0 (b:=false) rfl]; exact Y0w hx (by decide)
  cases b with
  | false=>exact rest
  | true =>
    rw [c1 (b:=true) rfl];cases z with
    | false=>exact rest
    | true=>rw [c1 (b:=true) rfl]; exact Og.step (x:=(⟨1,0,0,0,false,0,false,true,[]⟩:Y4)) rfl (Og.ok (Dp.k0 rfl hn))
theorem Y9i {c:Q0} (h:Tab c.t) {x:Z8} (hx:Pn x.Pos) {v:Z7} {n:Nat} (hn:1≤n) (hv:Dp n v.term) (k:Int):Og Er (D8 c x v k) (fun t=>Dp (n+1) t):=by
  unfold D8;refine Og.bind (Z5g h hx hn hv k) (fun y a => ?_) (fun e he=>Og.err he);cases k == 2 with
  | true=>exact Og.ok (Dp.k1 rfl a (Nat.le_refl _))
  | false=>exact Og.ok (a.mono (by omega))
theorem X1i {c:Q0} (h:Tab c.t) {p:Pos} (hp:Pn p) {v:Z7} {t:Y4} {n:Nat} (hv:Dp n v.term) (ht:Dp n t) (k:Int):Og Er (C4 c p v t k) (fun y=>Dp (n+1) y.term):=by
  unfold C4;obtain⟨e,b,hb⟩:=Z5q h v.n;refine Og.step hb ?_;cases b with
  | false=>rw [c1 (b := !false) rfl]; exact Y0w hp (by decide)
  | true =>
    rw [c0 (b := !true) rfl];obtain⟨s,q,hi⟩:=Z9q h v.term t e k;exact Og.step hi (Og.ok (Dp.k2 rfl hv ht (Nat.le_refl _)))
theorem cond_any {α : Type} {b:Bool} {x y:Option α} (h : ∃ k,x=some k) (g : ∃ k,y=some k) : ∃ k,(bif b then x else y)=some k:=by cases b <;> assumption
theorem Y5b (o:List UInt8) : ∃ k,Q9s o=some k:=by
  unfold Q9s
  repeat' (first | exact⟨_,rfl⟩ | refine cond_any ?_ ?_)
theorem Q7z {x:Z8} {k:Nat} (h:k < x.Kids.length) : ∃ y,idx x.Kids (k:Int)=some y∧y ∈ x.Kids:=⟨x.Kids[k],B6 h,List.getElem_mem h⟩
theorem OkE.kids {x:Z8} (h:OkE x) : ∀ k ∈ x.Kids,OkE k:=match h with | .mk k _ _ _ _ _ _=>k
theorem OkE.ar {x:Z8} (h:OkE x):Z2m x.Kind≤x.Kids.length:=match h with | .mk _ _ _ _ a _ _=>a
theorem OkE.ex {x:Z8} (h:OkE x):Ex x.Kind x.Pos x.Op x.Name x.Kids.length:=match h with | .mk _ _ _ _ _ e _=>e
theorem OkE.ty {x:Z8} (h:OkE x):OkT x.Type_:=match h with | .mk _ _ _ t _ _ _=>t
theorem OkE.nu {x:Z8} (h:OkE x):U32 x.Num:=match h with | .mk _ _ _ _ _ _ n=>n
theorem OkE.pn {x:Z8} (h:OkE x):Pn x.Pos:=h.ex.1
theorem equal_g {c:Q0} (h:Tab c.t) {x:Z8} (hx:OkE x) (h2:2≤x.Kids.length) {u v:Z7} {n:Nat} (hn:1≤n) (hu:Dp n u.term) (hv:Dp n v.term):Og Er (L5 c x u v) (fun y=>Dp (n+1) y.term):=by
  unfold L5
  dsimp only [jn]
  obtain⟨a,ha,ham⟩:=Q7z (k:=0) (show 0 < x.Kids.length by omega);obtain⟨b,hb,hbm⟩:=Q7z (k:=1) (show 1 < x.Kids.length by omega);refine Og.step ha ?_;refine Og.step hb ?_;have pa:=(hx.kids a ham).pn;have pb:=(hx.kids b hbm).pn;obtain⟨f,hf⟩:=Y5b x.Op;refine Og.step hf ?_;obtain⟨p,hp⟩:=S8 h u.n;obtain⟨q,hq⟩:=S8 h v.n;obtain⟨za,hza⟩:=Z8t a;obtain⟨zb,hzb⟩:=Z8t b;have hno:Q1h=some (⟨1,0,0,0,false,0,false,true,[]⟩:Y4):=rfl
  simp only [hp,hq,hza,hzb,hno,Option.bind_some]
  have d0:Dp n (⟨1,0,0,0,false,0,false,true,[]⟩:Y4):=Dp.k0 rfl hn
  cases p <;> cases q <;> cases za <;> cases zb <;> cases (u.n == v.n) <;> cases (u.n != 1) <;> simp only [cond_true,cond_false,Bool.not_true,Bool.not_false] <;> first
    | exact Y0w pa (by decide)
    | exact Y0w pb (by decide)
    | exact Og.ok (Dp.k2 rfl hu hv (Nat.le_refl _))
    | exact Og.ok (Dp.k2 rfl hu d0 (Nat.le_refl _))
    | exact Og.ok (Dp.k2 rfl d0 hv (Nat.le_refl _))
    | skip
theorem find_g {f:G5} (h:Fn f) (nm:List UInt8) : ∃ v b,Q0n f nm=some (v,b)∧(b=true→0≤v∧v < f.types.length):=by
  have hsl:=h.sl;unfold Q0n;refine Exists.elim (Q3b (body:=fun(x1:Int)=>(bif decide (0≤x1) then ((idx f.scopes x1).bind fun u1=>bif (D3 u1 nm).isSome then (some (Lp.ret ((D3 u1 nm).getD 0,true))) else (some (Lp.go (IntKind.wrap .i64 (x1 - 1))))) else (some (Lp.brk x1)):Option (Lp (Int) (Int×Bool)))) (n:=NN) (s:=IntKind.wrap .i64 ((List.length f.scopes:Int) - 1)) (fun s => -1≤s∧s < f.scopes.length) (fun s=>(s+1).toNat) (fun o=>(∃ s,o = .brk s) ∨ ∃ v,o = .ret (v,true)∧0≤v∧v < f.types.length) ⟨by rw [w64 (by omega)]; omega,by rw [w64 (by omega)]; omega⟩ (Q9u (by rw [w64 (by omega)]; omega)) ?_) ?_
  · rintro s ⟨s0,s1⟩
    by_cases hs:0≤s
    · rw [c1 (dt hs)];obtain⟨m,hm,hmm⟩:=I6 ⟨hs,s1⟩;rw [hm,Option.bind_some];obtain⟨l,hl,hv⟩:=h.sc m hmm;have hg:D3 m nm=Q5z l nm:=by unfold D3; rw [hl]; rfl
      rw [hg];cases he:Q5z l nm with
      | none=>exact⟨_,rfl,⟨by rw [w64 (by omega)]; omega,by rw [w64 (by omega)]; omega⟩,by rw [w64 (by omega)]; omega⟩
      | some v =>
        have:=hv nm v he;exact⟨_,rfl,.inr ⟨v,rfl,this.1,by rw [h.ty]; exact this.2⟩⟩
    · rw [c0 (df hs)]; exact⟨_,rfl,.inl ⟨_,rfl⟩⟩
  · rintro o ⟨ho,hp⟩;rw [ho,Option.bind_some]
    rcases hp with ⟨s,rfl⟩ | ⟨v,rfl,hv⟩
    · exact⟨_,_,rfl,fun e=>by cases e⟩
    · exact⟨_,_,rfl,fun _=>hv⟩
theorem name_g {c:Q0} (h:Ck c) {x:Z8} (hx:Pn x.Pos):Og Ep (O9 c x) (fun y=>y.2=c∧Dp 1 y.1.term):=by
  unfold O9
  dsimp only [jn]
  have rest:Og Ep (bif !((D3 c.globals x.Name).isSome) then ((Y6 x.Pos 4).bind fun y2=>exC y2 (fun y2=>none) (fun e1=>some (Except.error (e1,c)))) else ((idx c.gtypes ((D3 c.globals x.Name).getD 0)).bind fun u5=>some (Except.ok ((⟨u5,(⟨2,0,0,(D3 c.globals x.Name).getD 0,true,0,false,true,[]⟩:Y4),true⟩:Z7),c)))) (fun y=>y.2=c∧Dp 1 y.1.term):=by
    obtain⟨l,hl,hv⟩:=h.gl;have hg:D3 c.globals x.Name=Q5z l x.Name:=by unfold D3; rw [hl]; rfl
    rw [hg];cases he:Q5z l x.Name with
    | none=>rw [c1 (b := !(Option.isSome none)) rfl]; exact Z0t hx (by decide)
    | some v =>
      obtain⟨t,ht,_⟩:=I6 (hv _ _ he);rw [c0 (b := !(Option.isSome (some v))) rfl];exact Og.step ht (Og.ok ⟨rfl,Dp.k0 rfl (Nat.le_refl _)⟩)
  have hf:=h.fn;cases hfn:c.fun_ with
  | nil=>exact rest
  | dead=>rw [hfn] at hf; exact hf.elim
  | some f =>
    rw [hfn] at hf;refine Og.step (x:=false) rfl ?_;rw [c1 (b := !false) rfl];refine Og.step (x:=f) rfl ?_;obtain⟨v,b,hy,hv⟩:=find_g hf x.Name;refine Og.step hy ?_;cases b with
    | false=>exact rest
    | true =>
      obtain⟨t,ht,_⟩:=I6 (hv rfl);exact Og.step ht (Og.ok ⟨rfl,Dp.k0 rfl (Nat.le_refl _)⟩)
end Go.Proofs.YtfffghclkmbopaaGreat
