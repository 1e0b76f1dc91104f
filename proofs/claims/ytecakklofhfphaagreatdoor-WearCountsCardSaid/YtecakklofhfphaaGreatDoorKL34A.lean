/- Plain laws: no program is in sight here. -/
import Derived.Test.YtecakklofhfphaaGreatDoorKPure
import Derived.Test.YtecakklofhfphaaGreatDoorKLoop
import Derived.Test.YtecakklofhfphaaGreatDoorKM
set_option linter.unusedVariables false
namespace Go.Proofs.YtecakklofhfphaaGreatDoor
def formL:List Int := [0,85,85,74,73,66,66,66,66,66,66,73,73,73,73,73,83,83,83,73,73,73,73,73,73,72,72,72,82,82,82,82,82,82,82,82,82,82,82,82,82,82,82,82,82,82]
def Z2 (o:Int):Int:=if 0≤o then formL.getD o.toNat 0 else 0
theorem Z5c {P:Int→Prop} (h : ∀ k:_root_.Fin 46,P (k.val:Int)) {o:Int} (h0:0≤o) (h1:o≤45):P o:=by
  have:=h ⟨o.toNat,by omega⟩
  rwa [show ((⟨o.toNat,by omega⟩:_root_.Fin 46).val:Int)=o by simp; omega] at this
theorem Z2p {o:Int} (h:o < 0 ∨ 46≤o):Z2 o=0:=by
  unfold Z2
  split
  · rw [List.getD_eq_getElem?_getD,List.getElem?_eq_none (by simp [formL]; omega)]; rfl
  · rfl
theorem Z1l (o:Int):M0 o=some (Z2 o):=by
  by_cases h:o < 0 ∨ 46≤o
  · unfold M0; rw [Z2p h]
    rcases h with h | h
    · rw [c1 (dt (by omega))]
    · rw [c0 (df (by omega)),c1 (dt (by omega))]
  · exact Z5c (P:=fun o=>M0 o=some (Z2 o)) (by decide +kernel) (by omega) (by omega)
theorem forms (o:Int):Z2 o=0 ∨ Z2 o=82 ∨ Z2 o=85 ∨ Z2 o=74 ∨ Z2 o=66 ∨ Z2 o=83 ∨ Z2 o=73 ∨ Z2 o=72:=by
  by_cases h:o < 0 ∨ 46≤o
  · exact .inl (Z2p h)
  · exact Z5c (P:=fun o=>Z2 o=0 ∨ Z2 o=82 ∨ Z2 o=85 ∨ Z2 o=74 ∨ Z2 o=66 ∨ Z2 o=83 ∨ Z2 o=73 ∨ Z2 o=72) (by decide +kernel) (by omega) (by omega)
def regB (n:Int) (b:Bool):Bool:=bif b then decide (0≤n)&&decide (n≤31) else n == 0
def hasD (f:Int):Bool:=f != 83&&f != 66
def has1 (f:Int):Bool:=f != 85&&f != 74
def has2 (f:Int):Bool:=f == 83 || f == 66 || f == 82
def immB (f n:Int):Bool:=(N8 f n).getD false
def Z5y (i:V4):Bool:=(Z2 i.Op != 0)&&regB i.Rd (hasD (Z2 i.Op))&&regB i.Rs1 (has1 (Z2 i.Op))&&regB i.Rs2 (has2 (Z2 i.Op))&&immB (Z2 i.Op) i.Imm
theorem rreg_eq (n:Int) (b:Bool):O9 n b=some (regB n b):=by
  unfold O9 regB
  cases b with
  | false=>rfl
  | true =>
    simp only [Bool.not_true,cond_false,cond_true]
    cases decide (0≤n) <;> rfl
theorem rhas1 (f:Int):G5 f 1=some (hasD f):=by
  unfold G5 hasD
  simp only [Int.reduceBEq,cond_true]
  cases f != 83 <;> rfl
theorem rhas2 (f:Int):G5 f 2=some (has1 f):=by
  unfold G5 has1
  simp only [Int.reduceBEq,cond_true,cond_false]
  cases f != 85 <;> rfl
theorem rhas3 (f:Int):G5 f 3=some (has2 f):=by
  unfold G5 has2
  simp only [Int.reduceBEq,cond_false]
  cases f == 83 <;> cases f == 66 <;> rfl
theorem rroom_eq (f n:Int):N8 f n=some (immB f n):=by
  have : ∃ b,N8 f n=some b:=by
    unfold N8
    have ex : ∀(c:Bool) (x y:Option Bool),(∃ b,x=some b)→(∃ b,y=some b) → ∃ b,(bif c then x else y)=some b:=by
      rintro(_ | _) x y h1 h2
      · exact h2
      · exact h1
    repeat' first | exact⟨_,rfl⟩ | refine ex _ _ _ ?_ ?_
  obtain⟨b,hb⟩:=this
  unfold immB
  rw [hb]
  rfl
theorem Y2f (i:V4):N9 i=some (Z5y i):=by
  unfold N9 Z5y
  rw [Z1l,Option.bind_some]
  cases Z2 i.Op != 0 with
  | false=>rfl
  | true =>
    simp only [cond_true,rhas1,rhas2,rhas3,rreg_eq,rroom_eq,Option.bind_some,Bool.true_and]
    cases regB i.Rd (hasD (Z2 i.Op)) with
    | false=>rfl
    | true =>
      cases regB i.Rs1 (has1 (Z2 i.Op)) with
      | false=>rfl
      | true=>cases regB i.Rs2 (has2 (Z2 i.Op)) <;> rfl
theorem needs_eq (o:Int) (h:Z2 o ≠ 0):Q3k (Z2 o)=some (hasD (Z2 o),has1 (Z2 o),has2 (Z2 o),Z2 o != 82):=by
  rcases forms o with e | e | e | e | e | e | e | e
  · exact absurd e h
  all_goals rw [e]; rfl
theorem tm0 (n k:Int):(Int.tmod n k == 0)=decide (n % k=0):=by
  have:Int.tmod n k=0 ↔ n % k=0:=by rw [← Int.dvd_iff_tmod_eq_zero,Int.dvd_iff_emod_eq_zero]
  rw [← decide_eq_decide.2 this]
  rfl
theorem bb (a b c:Prop) [Decidable a] [Decidable b] [Decidable c]:(bif decide a then bif decide b then some (decide c) else some false else some false:Option Bool)=some (decide (a∧b∧c)):=by
  by_cases h1:a <;> by_cases h2:b <;> by_cases h3:c <;> simp [h1,h2,h3]
theorem bb2 (a b:Prop) [Decidable a] [Decidable b]:(bif decide a then some (decide b) else some false:Option Bool)=some (decide (a∧b)):=by
  by_cases h1:a <;> by_cases h2:b <;> simp [h1,h2]
theorem Q2j {x:Nat} (h:x < 4294967296):IntKind.wrap .u32 (x:Int)=(x:Int):=w32u (by omega)
theorem bv32 {a:Nat} (h:a < 4294967296):(BitVec.ofInt 32 (a:Int)).toNat=a:=by
  rw [BitVec.ofInt_natCast,BitVec.toNat_ofNat]; exact Nat.mod_eq_of_lt h
theorem Q8x {a b:Nat} (ha:a < 4294967296) (hb:b < 4294967296):bits .or .u32 (a:Int) (b:Int)=((a ||| b:Nat):Int):=by
  show IntKind.u32.wrap ((BitVec.ofInt 32 (a:Int) ||| BitVec.ofInt 32 (b:Int)).toNat:Int)=_
  rw [BitVec.toNat_or,bv32 ha,bv32 hb,Q2j (Nat.or_lt_two_pow (n:=32) ha hb)]
theorem and32 (m k:Nat) (hm:m < 4294967296) (hk:k < 32):bits .and .u32 (m:Int) ((2 ^ k - 1:Nat):Int)=((m % 2 ^ k:Nat):Int):=by
  have h3:2 ^ k < 2 ^ 32:=Nat.pow_lt_pow_right (by omega) hk
  show IntKind.u32.wrap ((BitVec.ofInt 32 (m:Int) &&& BitVec.ofInt 32 ((2 ^ k - 1:Nat):Int)).toNat:Int)=_
  have:=Nat.mod_le m (2 ^ k)
  rw [BitVec.toNat_and,bv32 hm,bv32 (by omega),Nat.and_two_pow_sub_one_eq_mod,Q2j (by omega)]
theorem high20 (x:Nat) (h:x < 4294967296):x &&& 4294963200=x / 4096 * 4096:=by
  rw [show (4294963200:Nat)=(2 ^ 20 - 1) <<< 12 from rfl,show x / 4096 * 4096=(x >>> 12) <<< 12 by rw [Nat.shiftLeft_eq,Nat.shiftRight_eq_div_pow]]
  apply Nat.eq_of_testBit_eq
  intro i
  rw [Nat.testBit_and,Nat.testBit_shiftLeft,Nat.testBit_shiftLeft,Nat.testBit_shiftRight,Nat.testBit_two_pow_sub_one]
  by_cases h1:12≤i
  · simp only [ge_iff_le,h1,decide_true,Bool.true_and]
    rw [show 12+(i - 12)=i by omega]
    by_cases h2:i - 12 < 20
    · simp [h2]
    · rw [Nat.testBit_lt_two_pow (Nat.lt_of_lt_of_le h (show 4294967296≤2 ^ i from Nat.pow_le_pow_right (n:=2) (by omega) (show 32≤i by omega)))]
      rfl
  · simp [h1]
theorem andN (x:Nat) (h:x < 4294967296):bits .andNot .u32 (x:Int) 4095=((x / 4096 * 4096:Nat):Int):=by
  show IntKind.u32.wrap ((BitVec.ofInt 32 (x:Int) &&& ~~~ BitVec.ofInt 32 4095).toNat:Int)=_
  rw [BitVec.toNat_and,bv32 h,show (~~~ BitVec.ofInt 32 4095).toNat=4294963200 by decide +kernel,high20 x h,Q2j (by omega)]
theorem ibits {w:Nat} (hw:w < 4294967296) {a m:Int} (ha:0≤a∧a < 32) (hm:0≤m∧m < 32):Y6 (w:Int) a m=some ((w / 2 ^ a.toNat % 2 ^ m.toNat:Nat):Int):=by
  unfold Y6 nn
  rw [if_pos ha.1,if_pos hm.1,Option.bind_some,Option.bind_some]
  have e1:min (Int.toNat a) (IntKind.bits .u32)=a.toNat:=Nat.min_eq_left (by show a.toNat≤32; omega)
  have e2:min (Int.toNat m) (IntKind.bits .u32)=m.toNat:=Nat.min_eq_left (by show m.toNat≤32; omega)
  have h3:2 ^ m.toNat < 2 ^ 32:=Nat.pow_lt_pow_right (by omega) (by omega)
  have h4:0 < 2 ^ m.toNat:=Nat.pow_pos (by omega)
  have h5:0 < 2 ^ a.toNat:=Nat.pow_pos (by omega)
  have e3:IntKind.wrap .u32 ((IntKind.wrap .u32 (1 * 2 ^ m.toNat)) - 1)=((2 ^ m.toNat - 1:Nat):Int):=by
    rw [show (1 * 2 ^ m.toNat:Int)=((2 ^ m.toNat:Nat):Int) by simp,Q2j (by omega),show ((2 ^ m.toNat:Nat):Int) - 1=((2 ^ m.toNat - 1:Nat):Int) by omega,Q2j (by omega)]
  have e4:Int.fdiv (w:Int) (2 ^ a.toNat)=((w / 2 ^ a.toNat:Nat):Int):=by
    rw [show (2 ^ a.toNat:Int)=((2 ^ a.toNat:Nat):Int) by simp,Int.fdiv_eq_ediv_of_nonneg _ (by omega),Int.natCast_ediv]
  have h6:w / 2 ^ a.toNat≤w:=Nat.div_le_self _ _
  rw [e1,e2,e3,e4,and32 _ _ (by omega) (by omega)]
theorem ibP {w:Nat} (hw:w < 4294967296) {a m:Int} {p q:Nat} (ha:0≤a∧a < 32) (hm:0≤m∧m < 32) (hp:2 ^ a.toNat=p) (hq:2 ^ m.toNat=q):Y6 (w:Int) a m=some ((w / p % q:Nat):Int):=by
  subst hp hq
  exact ibits hw ha hm
theorem Q1z {k:Int} (h:0≤k∧k < 62):J1 k=some ((2 ^ k.toNat:Nat):Int):=by
  obtain⟨n,rfl⟩ : ∃ n:Nat,k=(n:Int):=⟨k.toNat,by omega⟩
  unfold J1
  have hp : ∀ j,j≤n→2 ^ j < 2 ^ 62:=fun j hj=>Nat.pow_lt_pow_right (by omega) (by omega)
  refine run_bind (fun j=>(((2 ^ j:Nat):Int),(j:Int))) n (.brk (((2 ^ n:Nat):Int),(n:Int))) rfl (by omega) (fun j hj => ?_) ?_ trivial rfl
  · have:=hp (j+1) (by omega)
    have e:(2:Nat) ^ (j+1)=2 * 2 ^ j:=by rw [Nat.pow_succ,Nat.mul_comm]
    simp only []
    rw [c1 (dt (by omega)),w64 (by omega),w64 (by omega),e]
    congr 3
  · simp only []
    rw [c0 (df (by omega))]
theorem Y0z {n:Int} {w:Nat} (hw:w < 4294967296) (h:(n < 0∧n+4294967296=(w:Int)) ∨ (0≤n∧n=(w:Int))) {a b c:Int} (ha:0≤a∧a≤b∧b < 32) (hc:0≤c∧c+(b - a+1)≤32) :
    Y0 n a b c=some ((w / 2 ^ a.toNat % 2 ^ (b - a+1).toNat * 2 ^ c.toNat:Nat):Int):=by
  unfold Y0
  dsimp only [jn]
  have key : ∀ x1:Int,x1=(w:Int)→((J1 a).bind fun y1=>(nz y1).bind fun _=>(J1 (IntKind.wrap .i64 ((IntKind.wrap .i64 (b - a))+1))).bind fun y2=>(nz y2).bind fun _=>(J1 c).bind fun y3=>some (IntKind.wrap .i64 ((Int.tmod (IntKind.wrap .i64 (Int.tdiv x1 y1)) y2) * y3)))=some ((w / 2 ^ a.toNat % 2 ^ (b - a+1).toNat * 2 ^ c.toNat:Nat):Int):=by
    intro x1 hx
    subst hx
    have p1:0 < 2 ^ a.toNat:=Nat.pow_pos (by decide)
    have p2:0 < 2 ^ (b - a+1).toNat:=Nat.pow_pos (by decide)
    have p3:0 < 2 ^ c.toNat:=Nat.pow_pos (by decide)
    have p4:2 ^ (b - a+1).toNat * 2 ^ c.toNat≤4294967296:=by
      rw [← Nat.pow_add]
      exact Nat.pow_le_pow_right (n:=2) (by decide) (show (b - a+1).toNat+c.toNat≤32 by omega)
    rw [Q1z (by omega),Option.bind_some,show IntKind.wrap .i64 (b - a)=b - a from w64 (by omega),show IntKind.wrap .i64 (b - a+1)=b - a+1 from w64 (by omega),Q1z (by omega),Q1z (by omega)]
    clear h ha hc
    generalize 2 ^ a.toNat=A at *
    generalize 2 ^ (b - a+1).toNat=B at *
    generalize 2 ^ c.toNat=C at *
    unfold nz
    rw [if_neg (by omega),Option.bind_some,Option.bind_some,if_neg (by omega),Option.bind_some,Option.bind_some]
    have h6:w / A≤w:=Nat.div_le_self _ _
    have h7:w / A % B < B:=Nat.mod_lt _ p2
    have h8:w / A % B * C < 4294967296:=Nat.lt_of_lt_of_le ((Nat.mul_lt_mul_right p3).2 h7) p4
    have q1:Int.tdiv (w:Int) (A:Int)=((w / A:Nat):Int):=by rw [Int.tdiv_eq_ediv_of_nonneg (Int.natCast_nonneg _),← Int.natCast_ediv]
    have q2:IntKind.wrap .i64 ((w / A:Nat):Int)=((w / A:Nat):Int):=by
      generalize w / A=z at *
      exact w64 (by omega)
    have q3:Int.tmod ((w / A:Nat):Int) (B:Int)=((w / A % B:Nat):Int):=by rw [Int.tmod_eq_emod_of_nonneg (Int.natCast_nonneg _),← Int.natCast_emod]
    have q4:IntKind.wrap .i64 ((w / A % B * C:Nat):Int)=((w / A % B * C:Nat):Int):=by
      generalize w / A % B * C=z at *
      exact w64 (by omega)
    rw [q1,q2,q3,← Int.natCast_mul,q4]
  rcases h with ⟨h1,h2⟩ | ⟨h1,h2⟩
  · rw [c1 (dt h1)]
    exact key _ (by rw [w64 (by omega)]; exact h2)
  · rw [c0 (df (by omega))]
    exact key _ h2
theorem Q2l {n k:Int} (hk:1≤k∧k≤32) (hn:0≤n∧n < 4294967296):F1 n k=some (if (2 ^ (k - 1).toNat:Nat)≤n then n - (2 ^ k.toNat:Nat) else n):=by
  unfold F1
  have:2 ^ k.toNat≤2 ^ 32:=Nat.pow_le_pow_right (by omega) (by omega)
  rw [w64 (by omega),Q1z (by omega),Option.bind_some]
  split
  · rename_i h
    have h9:0 < 2 ^ k.toNat:=Nat.pow_pos (by decide)
    rw [c1 (dt h),Q1z (by omega),Option.bind_some]
    generalize 2 ^ k.toNat=A at *
    rw [w64 (by omega)]
  · rename_i h
    rw [c0 (df h)]
def L0 (f:Int) (w:Nat):Int :=
  if f=85 then (if 524288≤w / 4096 % 1048576 then ((w / 4096 % 1048576:Nat):Int) * 4096 - 4294967296 else ((w / 4096 % 1048576:Nat):Int) * 4096)
  else if f=74 then ((w / 2097152 % 1024:Nat):Int) * 2+((w / 1048576 % 2:Nat):Int) * 2048+((w / 4096 % 256:Nat):Int) * 4096 - ((w / 2147483648 % 2:Nat):Int) * 1048576
  else if f=73 then (if 2048≤w / 1048576 % 4096 then ((w / 1048576 % 4096:Nat):Int) - 4096 else ((w / 1048576 % 4096:Nat):Int))
  else if f=72 then ((w / 1048576 % 32:Nat):Int)
  else if f=83 then (if 64≤w / 33554432 % 128 then ((w / 33554432 % 128:Nat):Int) * 32+((w / 128 % 32:Nat):Int) - 4096 else ((w / 33554432 % 128:Nat):Int) * 32+((w / 128 % 32:Nat):Int))
  else if f=66 then ((w / 33554432 % 64:Nat):Int) * 32+((w / 256 % 16:Nat):Int) * 2+((w / 128 % 2:Nat):Int) * 2048 - ((w / 2147483648 % 2:Nat):Int) * 4096
  else 0
theorem fN (w k m:Nat) (h:0 < m) : ∃ x,w / k % m=x∧x < m:=⟨_,rfl,Nat.mod_lt _ h⟩
theorem Y3g {w:Nat} (hw:w < 4294967296) (f:Int):I7 f (w:Int)=some (L0 f w):=by
  have mv : ∀ {a b c:Int},0≤a∧a≤b∧b < 32→0≤c∧c+(b - a+1)≤32→Y0 (w:Int) a b c=some ((w / 2 ^ a.toNat % 2 ^ (b - a+1).toNat * 2 ^ c.toNat:Nat):Int):=fun ha hc=>Y0z hw (.inr ⟨Int.natCast_nonneg _,rfl⟩) ha hc
  unfold I7 L0
  by_cases h:f=85
  · subst h
    rw [if_pos rfl]
    simp (disch:=decide) only [Int.reduceBEq,cond_true,cond_false,mv,Option.bind_some,Int.reduceToNat,Int.reduceSub,Int.reduceAdd,Nat.reducePow]
    obtain⟨x,e,hx⟩:=fN w 4096 1048576 (by decide)
    rw [e]
    clear mv hw
    rw [Q2l (by omega) (by omega),Option.bind_some]
    simp only [Int.reduceToNat,Int.reduceSub,Nat.reducePow]
    congr 1
    split <;> split <;> omega
  rw [if_neg h,c0 (by simpa using h)]
  by_cases h:f=74
  · subst h
    rw [if_pos rfl]
    simp (disch:=decide) only [Int.reduceBEq,cond_true,cond_false,mv,Option.bind_some,Int.reduceToNat,Int.reduceSub,Int.reduceAdd,Nat.reducePow]
    obtain⟨x,e1,h1⟩:=fN w 2147483648 2 (by decide)
    obtain⟨y,e2,h2⟩:=fN w 2097152 1024 (by decide)
    obtain⟨z,e3,h3⟩:=fN w 1048576 2 (by decide)
    obtain⟨u,e4,h4⟩:=fN w 4096 256 (by decide)
    rw [e1,e2,e3,e4]
    clear mv hw e1 e2 e3 e4
    simp (disch:=omega) only [w64]
    rw [Q2l (by omega) (by omega),Option.bind_some]
    simp only [Int.reduceToNat,Int.reduceSub,Nat.reducePow]
    congr 1
    split <;> omega
  rw [if_neg h,c0 (by simpa using h)]
  by_cases h:f=73
  · subst h
    rw [if_pos rfl]
    simp (disch:=decide) only [Int.reduceBEq,cond_true,cond_false,mv,Option.bind_some,Int.reduceToNat,Int.reduceSub,Int.reduceAdd,Nat.reducePow]
    obtain⟨x,e,hx⟩:=fN w 1048576 4096 (by decide)
    rw [e]
    clear mv hw
    rw [Q2l (by omega) (by omega),Option.bind_some]
    simp only [Int.reduceToNat,Int.reduceSub,Nat.reducePow]
    congr 1
    split <;> split <;> omega
  rw [if_neg h,c0 (by simpa using h)]
  by_cases h:f=72
  · subst h
    rw [if_pos rfl]
    simp (disch:=decide) only [Int.reduceBEq,cond_true,cond_false,mv,Option.bind_some,Int.reduceToNat,Int.reduceSub,Int.reduceAdd,Nat.reducePow,Nat.mul_one]
  rw [if_neg h,c0 (by simpa using h)]
  by_cases h:f=83
  · subst h
    rw [if_pos rfl]
    simp (disch:=decide) only [Int.reduceBEq,cond_true,cond_false,mv,Option.bind_some,Int.reduceToNat,Int.reduceSub,Int.reduceAdd,Nat.reducePow]
    obtain⟨x,e1,h1⟩:=fN w 33554432 128 (by decide)
    obtain⟨y,e2,h2⟩:=fN w 128 32 (by decide)
    rw [e1,e2]
    clear mv hw e1 e2
    simp (disch:=omega) only [w64]
    rw [Q2l (by omega) (by omega),Option.bind_some]
    simp only [Int.reduceToNat,Int.reduceSub,Nat.reducePow]
    congr 1
    split <;> split <;> omega
  rw [if_neg h,c0 (by simpa using h)]
  by_cases h:f=66
  · subst h
    rw [if_pos rfl]
    simp (disch:=decide) only [Int.reduceBEq,cond_true,mv,Option.bind_some,Int.reduceToNat,Int.reduceSub,Int.reduceAdd,Nat.reducePow]
    obtain⟨x,e1,h1⟩:=fN w 2147483648 2 (by decide)
    obtain⟨y,e2,h2⟩:=fN w 33554432 64 (by decide)
    obtain⟨z,e3,h3⟩:=fN w 256 16 (by decide)
    obtain⟨u,e4,h4⟩:=fN w 128 2 (by decide)
    rw [e1,e2,e3,e4]
    clear mv hw e1 e2 e3 e4
    simp (disch:=omega) only [w64]
    rw [Q2l (by omega) (by omega),Option.bind_some]
    simp only [Int.reduceToNat,Int.reduceSub,Nat.reducePow]
    congr 1
    split <;> omega
  rw [if_neg h,c0 (by simpa using h)]
theorem w32s {x:Nat} (h:x < 4294967296):IntKind.wrap .i32 (x:Int)=if 2147483648≤x then (x:Int) - 4294967296 else (x:Int):=by
  have e:(x:Int) % 2 ^ 32=x:=Int.emod_eq_of_lt (by omega) (by omega)
  show(if (true&&decide ((x:Int) % 2 ^ 32 ≥ 2 ^ 31))=true then (x:Int) % 2 ^ 32 - 2 ^ 32 else (x:Int) % 2 ^ 32)=_
  rw [Bool.true_and]
  simp only [e,decide_eq_true_eq]
  split <;> split <;> omega
theorem wu32n {n:Int} (h : -4294967296≤n∧n < 0):IntKind.wrap .u32 n=n+4294967296:=by
  simp only [IntKind.wrap,IntKind.signed,IntKind.bits]
  simp
  omega
theorem wi32 {x:Nat} (h:x < 4294967296):IntKind.wrap .i64 (IntKind.wrap .i32 (x:Int))=if 2147483648≤x then (x:Int) - 4294967296 else (x:Int):=by
  rw [w32s h]
  split <;> exact w64 (by omega)
theorem orS {a b:Nat} (k:Nat) (h:b < 2 ^ k):a * 2 ^ k ||| b=a * 2 ^ k+b:=by
  rw [Nat.mul_comm]
  exact(Nat.two_pow_add_eq_or_of_lt h a).symm
theorem orS' {a b:Nat} (k:Nat) (h:b < 2 ^ k):b ||| a * 2 ^ k=a * 2 ^ k+b:=by
  rw [Nat.or_comm]
  exact orS k h
theorem orP {a b p:Nat} (k:Nat) (hp:2 ^ k=p) (h:b < p):a * p ||| b=a * p+b:=by
  subst hp
  exact orS k h
theorem orP' {a b p:Nat} (k:Nat) (hp:2 ^ k=p) (h:b < p):b ||| a * p=a * p+b:=by
  subst hp
  exact orS' k h
theorem shP {x p:Nat} {k:Int} (hk:0≤k∧k≤32) (hp:2 ^ k.toNat=p) (h:x * p < 4294967296):IntKind.wrap .u32 ((x:Int) * 2 ^ (min (Int.toNat k) (IntKind.bits .u32)))=((x * p:Nat):Int):=by
  subst hp
  rw [show min (Int.toNat k) (IntKind.bits .u32)=k.toNat from Nat.min_eq_left (by show k.toNat≤32; omega),show (x:Int) * 2 ^ k.toNat=((x * 2 ^ k.toNat:Nat):Int) by simp,Q2j h]
theorem sign21 {x:Nat} (h:x < 2097152) : ∃ y,G0 (x:Int) 21=some y∧IntKind.wrap .i64 (IntKind.wrap .i32 y)=if 1048576≤x then (x:Int) - 2097152 else x:=by
  unfold G0 nn
  simp only [Int.reduceLT,decide_false,cond_false]
  rw [show IntKind.wrap .i64 (32 - 21)=11 from rfl,if_pos (by decide),Option.bind_some,Option.bind_some,show (2:Int) ^ (min (Int.toNat 11) (IntKind.bits .u32))=2048 from rfl,show (2:Int) ^ (min (Int.toNat 11) (IntKind.bits .i32))=2048 from rfl,
    show(x:Int) * 2048=((x * 2048:Nat):Int) by omega,Q2j (by omega),w32s (by omega),Int.fdiv_eq_ediv_of_nonneg _ (by decide)]
  refine⟨_,rfl,?_⟩
  by_cases hx:1048576≤x
  · rw [if_pos (by omega),if_pos hx,show (((x * 2048:Nat):Int) - 4294967296) / 2048=(x:Int) - 2097152 by omega,wu32n (by omega),show (x:Int) - 2097152+4294967296=((x+4292870144:Nat):Int) by omega,wi32 (by omega),if_pos (by omega)]
    omega
  · rw [if_neg (by omega),if_neg hx,show ((x * 2048:Nat):Int) / 2048=(x:Int) by omega,Q2j (by omega),wi32 (by omega),if_neg (by omega)]
theorem sign12 {x:Nat} (h:x < 4096) : ∃ y,G0 (x:Int) 12=some y∧IntKind.wrap .i64 (IntKind.wrap .i32 y)=if 2048≤x then (x:Int) - 4096 else x:=by
  unfold G0 nn
  simp only [Int.reduceLT,decide_false,cond_false]
  rw [show IntKind.wrap .i64 (32 - 12)=20 from rfl,if_pos (by decide),Option.bind_some,Option.bind_some,show (2:Int) ^ (min (Int.toNat 20) (IntKind.bits .u32))=1048576 from rfl,show (2:Int) ^ (min (Int.toNat 20) (IntKind.bits .i32))=1048576 from rfl,
    show(x:Int) * 1048576=((x * 1048576:Nat):Int) by omega,Q2j (by omega),w32s (by omega),Int.fdiv_eq_ediv_of_nonneg _ (by decide)]
  refine⟨_,rfl,?_⟩
  by_cases hx:2048≤x
  · rw [if_pos (by omega),if_pos hx,show (((x * 1048576:Nat):Int) - 4294967296) / 1048576=(x:Int) - 4096 by omega,wu32n (by omega),show (x:Int) - 4096+4294967296=((x+4294963200:Nat):Int) by omega,wi32 (by omega),if_pos (by omega)]
    omega
  · rw [if_neg (by omega),if_neg hx,show ((x * 1048576:Nat):Int) / 1048576=(x:Int) by omega,Q2j (by omega),wi32 (by omega),if_neg (by omega)]
theorem sign13 {x:Nat} (h:x < 8192) : ∃ y,G0 (x:Int) 13=some y∧IntKind.wrap .i64 (IntKind.wrap .i32 y)=if 4096≤x then (x:Int) - 8192 else x:=by
  unfold G0 nn
  simp only [Int.reduceLT,decide_false,cond_false]
  rw [show IntKind.wrap .i64 (32 - 13)=19 from rfl,if_pos (by decide),Option.bind_some,Option.bind_some,show (2:Int) ^ (min (Int.toNat 19) (IntKind.bits .u32))=524288 from rfl,show (2:Int) ^ (min (Int.toNat 19) (IntKind.bits .i32))=524288 from rfl,
    show(x:Int) * 524288=((x * 524288:Nat):Int) by omega,Q2j (by omega),w32s (by omega),Int.fdiv_eq_ediv_of_nonneg _ (by decide)]
  refine⟨_,rfl,?_⟩
  by_cases hx:4096≤x
  · rw [if_pos (by omega),if_pos hx,show (((x * 524288:Nat):Int) - 4294967296) / 524288=(x:Int) - 8192 by omega,wu32n (by omega),show (x:Int) - 8192+4294967296=((x+4294959104:Nat):Int) by omega,wi32 (by omega),if_pos (by omega)]
    omega
  · rw [if_neg (by omega),if_neg hx,show ((x * 524288:Nat):Int) / 524288=(x:Int) by omega,Q2j (by omega),wi32 (by omega),if_neg (by omega)]
theorem told85 {w:Nat} (hw:w < 4294967296):J3 85 (w:Int)=some (L0 85 w):=by
  unfold J3 L0
  rw [if_pos rfl,show ((85:Int) == 85)=true from rfl,cond_true]
  rw [andN w hw,show w / 4096=w / 4096 % 1048576 by omega]
  obtain⟨x,e,hx⟩:=fN w 4096 1048576 (by decide)
  rw [e,show x % 1048576=x by omega]
  clear hw e
  rw [wi32 (by omega)]
  congr 1
  split <;> split <;> omega
theorem told74 {w:Nat} (hw:w < 4294967296):J3 74 (w:Int)=some (L0 74 w):=by
  have b0:Y6 (w:Int) 31 1=some ((w / 2147483648 % 2:Nat):Int):=ibP hw (by decide) (by decide) (by decide) (by decide)
  have b1:Y6 (w:Int) 21 10=some ((w / 2097152 % 1024:Nat):Int):=ibP hw (by decide) (by decide) (by decide) (by decide)
  have b2:Y6 (w:Int) 20 1=some ((w / 1048576 % 2:Nat):Int):=ibP hw (by decide) (by decide) (by decide) (by decide)
  have b3:Y6 (w:Int) 12 8=some ((w / 4096 % 256:Nat):Int):=ibP hw (by decide) (by decide) (by decide) (by decide)
  unfold J3 L0
  rw [if_neg (by decide),if_pos rfl,show ((74:Int) == 85)=false from rfl,cond_false,show ((74:Int) == 74)=true from rfl,cond_true]
  rw [b0,Option.bind_some,b1,Option.bind_some,b2,Option.bind_some,b3,Option.bind_some]
  obtain⟨x,e0,h0⟩:=fN w 2147483648 2 (by decide)
  obtain⟨y,e1,h1⟩:=fN w 2097152 1024 (by decide)
  obtain⟨z,e2,h2⟩:=fN w 1048576 2 (by decide)
  obtain⟨u,e3,h3⟩:=fN w 4096 256 (by decide)
  rw [e0,e1,e2,e3]
  clear b0 b1 b2 b3 hw e0 e1 e2 e3
  have a1:x * 1048576 ||| y * 2=x * 1048576+y * 2:=orP 20 rfl (by omega)
  have a2:x * 1048576+y * 2 ||| z * 2048=x * 1048576+(z * 2048+y * 2):=by
    rw [← orP 20 rfl (by omega),Nat.or_assoc,orP' 11 rfl (by omega),orP 20 rfl (by omega)]
  have a3:x * 1048576+(z * 2048+y * 2) ||| u * 4096=x * 1048576+(u * 4096+(z * 2048+y * 2)):=by
    rw [← orP 20 rfl (by omega),Nat.or_assoc,orP' 12 rfl (by omega),orP 20 rfl (by omega)]
  rw [shP (k:=20) (p:=1048576) (by decide) rfl (by omega),shP (k:=1) (p:=2) (by decide) rfl (by omega),shP (k:=11) (p:=2048) (by decide) rfl (by omega),shP (k:=12) (p:=4096) (by decide) rfl (by omega),Q8x (by omega) (by omega),a1,Q8x (by omega) (by omega),a2,Q8x (by omega) (by omega),a3]
  clear a1 a2 a3
  obtain⟨v,hy,hv⟩:=sign21 (x:=x * 1048576+(u * 4096+(z * 2048+y * 2))) (by omega)
  rw [hy,Option.bind_some,hv]
  clear hv hy
  congr 1
  split <;> omega
theorem told73 {w:Nat} (hw:w < 4294967296):J3 73 (w:Int)=some (L0 73 w):=by
  unfold J3 L0
  rw [if_neg (by decide),if_neg (by decide),if_pos rfl,show ((73:Int) == 85)=false from rfl,cond_false,show ((73:Int) == 74)=false from rfl,cond_false,show ((73:Int) == 73)=true from rfl,cond_true]
  rw [show (2:Int) ^ (min (Int.toNat 20) (IntKind.bits .i32))=1048576 from rfl,Int.fdiv_eq_ediv_of_nonneg _ (by decide),w32s hw]
  have:2147483648≤w ↔ 2048≤w / 1048576 % 4096:=by omega
  congr 1
  by_cases hs:2147483648≤w
  · rw [if_pos hs,if_pos (this.1 hs),show ((w:Int) - 4294967296) / 1048576=((w / 1048576 % 4096:Nat):Int) - 4096 by omega]
    refine w64 ⟨?_,?_⟩ <;> omega
  · rw [if_neg hs,if_neg (fun e=>hs (this.2 e)),show (w:Int) / 1048576=((w / 1048576 % 4096:Nat):Int) by omega]
    refine w64 ⟨?_,?_⟩ <;> omega
theorem told72 {w:Nat} (hw:w < 4294967296):J3 72 (w:Int)=some (L0 72 w):=by
  have b0:Y6 (w:Int) 20 5=some ((w / 1048576 % 32:Nat):Int):=ibP hw (by decide) (by decide) (by decide) (by decide)
  unfold J3 L0
  rw [if_neg (by decide),if_neg (by decide),if_neg (by decide),if_pos rfl,show ((72:Int) == 85)=false from rfl,cond_false,show ((72:Int) == 74)=false from rfl,cond_false,show ((72:Int) == 73)=false from rfl,cond_false,show ((72:Int) == 72)=true from rfl,cond_true]
  rw [b0]
  simp only [Option.bind_some]
  rw [w64 (by omega)]
theorem told83 {w:Nat} (hw:w < 4294967296):J3 83 (w:Int)=some (L0 83 w):=by
  have b0:Y6 (w:Int) 25 7=some ((w / 33554432 % 128:Nat):Int):=ibP hw (by decide) (by decide) (by decide) (by decide)
  have b1:Y6 (w:Int) 7 5=some ((w / 128 % 32:Nat):Int):=ibP hw (by decide) (by decide) (by decide) (by decide)
  unfold J3 L0
  rw [if_neg (by decide),if_neg (by decide),if_neg (by decide),if_neg (by decide),if_pos rfl,show ((83:Int) == 85)=false from rfl,cond_false,show ((83:Int) == 74)=false from rfl,cond_false,show ((83:Int) == 73)=false from rfl,cond_false,show ((83:Int) == 72)=false from rfl,cond_false,show ((83:Int) == 83)=true from rfl,cond_true]
  rw [b0,Option.bind_some,b1,Option.bind_some]
  obtain⟨x,e0,h0⟩:=fN w 33554432 128 (by decide)
  obtain⟨y,e1,h1⟩:=fN w 128 32 (by decide)
  rw [e0,e1]
  clear b0 b1 hw e0 e1
  have a1:x * 32 ||| y=x * 32+y:=orP 5 rfl (by omega)
  rw [shP (k:=5) (p:=32) (by decide) rfl (by omega),Q8x (by omega) (by omega),a1]
  clear a1
  obtain⟨v,hy,hv⟩:=sign12 (x:=x * 32+y) (by omega)
  rw [hy,Option.bind_some,hv]
  clear hv hy
  congr 1
  split <;> split <;> omega
theorem told66 {w:Nat} (hw:w < 4294967296):J3 66 (w:Int)=some (L0 66 w):=by
  have b0:Y6 (w:Int) 31 1=some ((w / 2147483648 % 2:Nat):Int):=ibP hw (by decide) (by decide) (by decide) (by decide)
  have b1:Y6 (w:Int) 25 6=some ((w / 33554432 % 64:Nat):Int):=ibP hw (by decide) (by decide) (by decide) (by decide)
  have b2:Y6 (w:Int) 8 4=some ((w / 256 % 16:Nat):Int):=ibP hw (by decide) (by decide) (by decide) (by decide)
  have b3:Y6 (w:Int) 7 1=some ((w / 128 % 2:Nat):Int):=ibP hw (by decide) (by decide) (by decide) (by decide)
  unfold J3 L0
  rw [if_neg (by decide),if_neg (by decide),if_neg (by decide),if_neg (by decide),if_neg (by decide),if_pos rfl,show ((66:Int) == 85)=false from rfl,cond_false,show ((66:Int) == 74)=false from rfl,cond_false,show ((66:Int) == 73)=false from rfl,cond_false,show ((66:Int) == 72)=false from rfl,cond_false,show ((66:Int) == 83)=false from rfl,cond_false,show ((66:Int) == 66)=true from rfl,cond_true]
  rw [b0,Option.bind_some,b1,Option.bind_some,b2,Option.bind_some,b3,Option.bind_some]
  obtain⟨x,e0,h0⟩:=fN w 2147483648 2 (by decide)
  obtain⟨y,e1,h1⟩:=fN w 33554432 64 (by decide)
  obtain⟨z,e2,h2⟩:=fN w 256 16 (by decide)
  obtain⟨u,e3,h3⟩:=fN w 128 2 (by decide)
  rw [e0,e1,e2,e3]
  clear b0 b1 b2 b3 hw e0 e1 e2 e3
  have a1:x * 4096 ||| y * 32=x * 4096+y * 32:=orP 12 rfl (by omega)
  have a2:x * 4096+y * 32 ||| z * 2=x * 4096+(y * 32+z * 2):=by
    rw [← orP 12 rfl (by omega),Nat.or_assoc,orP 5 rfl (by omega),orP 12 rfl (by omega)]
  have a3:x * 4096+(y * 32+z * 2) ||| u * 2048=x * 4096+(u * 2048+(y * 32+z * 2)):=by
    rw [← orP 12 rfl (by omega),Nat.or_assoc,orP' 11 rfl (by omega),orP 12 rfl (by omega)]
  rw [shP (k:=12) (p:=4096) (by decide) rfl (by omega),shP (k:=5) (p:=32) (by decide) rfl (by omega),shP (k:=1) (p:=2) (by decide) rfl (by omega),shP (k:=11) (p:=2048) (by decide) rfl (by omega),Q8x (by omega) (by omega),a1,Q8x (by omega) (by omega),a2,Q8x (by omega) (by omega),a3]
  clear a1 a2 a3
  obtain⟨v,hy,hv⟩:=sign13 (x:=x * 4096+(u * 2048+(y * 32+z * 2))) (by omega)
  rw [hy,Option.bind_some,hv]
  clear hv hy
  congr 1
  split <;> omega
theorem told_eq {w:Nat} (hw:w < 4294967296) (f:Int):J3 f (w:Int)=some (L0 f w):=by
  by_cases h:f=85
  · rw [h]; exact told85 hw
  by_cases h:f=74
  · rw [h]; exact told74 hw
  by_cases h:f=73
  · rw [h]; exact told73 hw
  by_cases h:f=72
  · rw [h]; exact told72 hw
  by_cases h:f=83
  · rw [h]; exact told83 hw
  by_cases h:f=66
  · rw [h]; exact told66 hw
  unfold J3 L0
  rename_i h1 h2 h3 h4 h5
  rw [if_neg h1,if_neg h2,if_neg h3,if_neg h4,if_neg h5,if_neg h,c0 (by simpa using h1),c0 (by simpa using h2),c0 (by simpa using h3),c0 (by simpa using h4),c0 (by simpa using h5),c0 (by simpa using h)]
def shp (o:Int):J4:=tbl1.getD o.toNat ⟨[],0,0,0,0⟩
theorem Y0q {o:Int} (h:0≤o∧o≤45):idx tbl1 o=some (shp o):=Z5c (P:=fun o=>idx tbl1 o=some (shp o)) (by decide +kernel) h.1 h.2
theorem Z0u {o:Int} (h:0≤o∧o≤45):(shp o).form=Z2 o:=Z5c (P:=fun o=>(shp o).form=Z2 o) (by decide +kernel) h.1 h.2
def cNq (o:Int):Nat:=(shp o).code.toNat
def tN (o:Int):Nat:=(shp o).third.toNat
def sNq (o:Int):Nat:=(shp o).seventh.toNat
theorem M2 {o:Int} (h:1≤o∧o≤45):((shp o).code=(cNq o:Int)∧(shp o).third=(tN o:Int)∧(shp o).seventh=(sNq o:Int))∧(cNq o < 128∧tN o < 8∧sNq o < 128) ∧
    (R6 o=some (cNq o:Int)∧H8 o=some (tN o:Int)∧P7 o=some (sNq o:Int))∧Z2 o ≠ 0∧(Z2 o=85 ∨ Z2 o=74→tN o=0)∧(Z2 o ≠ 82→Z2 o ≠ 72→sNq o=0) :=
  Z5c (P:=fun o=>1≤o→((shp o).code=(cNq o:Int)∧(shp o).third=(tN o:Int)∧(shp o).seventh=(sNq o:Int))∧(cNq o < 128∧tN o < 8∧sNq o < 128) ∧
    (R6 o=some (cNq o:Int)∧H8 o=some (tN o:Int)∧P7 o=some (sNq o:Int))∧Z2 o ≠ 0∧(Z2 o=85 ∨ Z2 o=74→tN o=0)∧(Z2 o ≠ 82→Z2 o ≠ 72→sNq o=0)) (by decide +kernel) (by omega) h.2 h.1
def N0 (o:Int) (w:Nat):Prop:=w % 128=cNq o∧(Z2 o=85 ∨ Z2 o=74 ∨ (w / 4096 % 8=tN o∧((Z2 o ≠ 82∧Z2 o ≠ 72) ∨ w / 33554432=sNq o)))
instance (o:Int) (w:Nat):Decidable (N0 o w):=by unfold N0; infer_instance
def J5 (o:Int) (w:Nat):V4 :=
  ⟨o,bif hasD (Z2 o) then (w / 128 % 32:Nat) else 0,bif has1 (Z2 o) then (w / 32768 % 32:Nat) else 0,bif has2 (Z2 o) then (w / 1048576 % 32:Nat) else 0,L0 (Z2 o) w⟩
theorem beqn (a b:Nat):(((a:Nat):Int) == ((b:Nat):Int))=decide (a=b):=by
  by_cases h:a=b
  · subst h; simp
  · rw [df h,beq_eq_false_iff_ne]; omega
theorem fits_eq {w:Nat} (hw:w < 4294967296) {o:Int} (ho:1≤o∧o≤45):Q2s (shp o) (w:Int)=some (decide (N0 o w)):=by
  obtain⟨⟨h1,h2,h3⟩,_,_,hf,_,_⟩:=M2 ho
  unfold Q2s
  rw [Z0u ⟨by omega,ho.2⟩,h1,h2,h3,show (127:Int)=((2 ^ 7 - 1:Nat):Int) from rfl,and32 w 7 hw (by omega),ibits hw (by omega) (by omega),Option.bind_some,
    show(2:Int) ^ (min (Int.toNat 25) (IntKind.bits .u32))=33554432 from rfl,Int.fdiv_eq_ediv_of_nonneg _ (by omega),show ((w:Int) / 33554432)=((w / 33554432:Nat):Int) by omega,bne,bne,beqn,beqn,beqn]
  simp only [Int.reduceToNat,Nat.reducePow]
  by_cases hF:N0 o w
  · rw [dt hF]
    unfold N0 at hF
    generalize Z2 o=f at *
    have e1:=hF.1
    rw [dt e1]
    rcases hF.2 with h | h | ⟨h,h'⟩
    · rw [h]; rfl
    · rw [h]; rfl
    · rw [dt h]
      cases f == 85 <;> cases f == 74 <;> try rfl
      rcases h' with h' | h'
      · rw [show (f != 82)=true by simpa using h'.1,show (f != 72)=true by simpa using h'.2]; rfl
      · rw [dt h']
        cases f != 82 <;> cases f != 72 <;> rfl
  · rw [df hF]
    unfold N0 at hF
    generalize Z2 o=f at *
    by_cases e1:w % 128=cNq o
    · rw [dt e1]
      by_cases a1:f=85
      · exact absurd ⟨e1,.inl a1⟩ hF
      by_cases a2:f=74
      · exact absurd ⟨e1,.inr (.inl a2)⟩ hF
      rw [show (f == 85)=false by simpa using a1,show (f == 74)=false by simpa using a2]
      by_cases e2:w / 4096 % 8=tN o
      · rw [dt e2]
        by_cases e3:w / 33554432=sNq o
        · exact absurd ⟨e1,.inr (.inr ⟨e2,.inr e3⟩)⟩ hF
        · rw [df e3]
          by_cases a3:f=82
          · subst a3; rfl
          by_cases a4:f=72
          · subst a4; rfl
          exact absurd ⟨e1,.inr (.inr ⟨e2,.inl ⟨a3,a4⟩⟩)⟩ hF
      · rw [df e2]; rfl
    · rw [df e1]; rfl
theorem Y2w {w:Nat} {o:Int} (hf:Z2 o ≠ 0):Z5y (J5 o w)=true:=by
  have hr : ∀(b:Bool) (n:Nat),n < 32→regB (bif b then (n:Int) else 0) b=true:=by
    intro b n hn
    cases b with
    | false=>rfl
    | true =>
      simp only [regB,cond_true,Bool.and_eq_true,decide_eq_true_eq]
      omega
  have hi:immB (Z2 o) (L0 (Z2 o) w)=true:=by
    unfold immB N8 L0
    obtain⟨x0,e0,h0⟩:=fN w 4096 1048576 (by decide)
    obtain⟨x1,e1,h1⟩:=fN w 2147483648 2 (by decide)
    obtain⟨x2,e2,h2⟩:=fN w 2097152 1024 (by decide)
    obtain⟨x3,e3,h3⟩:=fN w 1048576 2 (by decide)
    obtain⟨x4,e4,h4⟩:=fN w 4096 256 (by decide)
    obtain⟨x5,e5,h5⟩:=fN w 1048576 4096 (by decide)
    obtain⟨x6,e6,h6⟩:=fN w 1048576 32 (by decide)
    obtain⟨x7,e7,h7⟩:=fN w 33554432 128 (by decide)
    obtain⟨x8,e8,h8⟩:=fN w 128 32 (by decide)
    obtain⟨y1,f1,g1⟩:=fN w 33554432 64 (by decide)
    obtain⟨y2,f2,g2⟩:=fN w 256 16 (by decide)
    obtain⟨y3,f3,g3⟩:=fN w 128 2 (by decide)
    rw [e0,e1,e2,e3,e4,e5,e6,e7,e8,f1,f2,f3]
    clear e0 e1 e2 e3 e4 e5 e6 e7 e8 f1 f2 f3
    rcases forms o with e | e | e | e | e | e | e | e
    · exact absurd e hf
    all_goals
      rw [e]
      simp (config := {decide:=true}) only [Int.reduceBEq,cond_true,cond_false,tm0,bb2,Option.getD_some,if_true,if_false]
    all_goals first | rfl | skip
    all_goals
      rw [decide_eq_true_eq]
      first | (split <;> omega) | omega
  have hfb:(Z2 o != 0)=true:=by simpa using hf
  unfold Z5y
  simp only [Bool.and_eq_true]
  exact⟨⟨⟨⟨hfb,hr (hasD (Z2 o)) (w / 128 % 32) (Nat.mod_lt _ (by decide))⟩,hr (has1 (Z2 o)) (w / 32768 % 32) (Nat.mod_lt _ (by decide))⟩,hr (has2 (Z2 o)) (w / 1048576 % 32) (Nat.mod_lt _ (by decide))⟩,hi⟩
def sprN (f:Int) (w:Nat):Nat :=
  if f=85 then w / 4096 % 1048576 * 4096
  else if f=74 then w / 2147483648 % 2 * 2147483648+w / 2097152 % 1024 * 2097152+w / 1048576 % 2 * 1048576+w / 4096 % 256 * 4096
  else if f=73 then w / 1048576 % 4096 * 1048576
  else if f=72 then w / 1048576 % 32 * 1048576
  else if f=83 then w / 128 % 32 * 128+w / 33554432 % 128 * 33554432
  else if f=66 then w / 2147483648 % 2 * 2147483648+w / 33554432 % 64 * 33554432+w / 256 % 16 * 256+w / 128 % 2 * 128
  else 0
def immN (f:Int) (w:Nat):Nat :=
  if f=85 then w / 4096 % 1048576 * 4096
  else if f=74 then w / 2097152 % 1024 * 2+w / 1048576 % 2 * 2048+w / 4096 % 256 * 4096+w / 2147483648 % 2 * 4293918720
  else if f=73 then (if 2048≤w / 1048576 % 4096 then w / 1048576 % 4096+4294963200 else w / 1048576 % 4096)
  else if f=72 then w / 1048576 % 32
  else if f=83 then (if 64≤w / 33554432 % 128 then w / 33554432 % 128 * 32+w / 128 % 32+4294963200 else w / 33554432 % 128 * 32+w / 128 % 32)
  else if f=66 then w / 33554432 % 64 * 32+w / 256 % 16 * 2+w / 128 % 2 * 2048+w / 2147483648 % 2 * 4294963200
  else 0
theorem immN_at (f:Int) (w:Nat):immN f w < 4294967296∧((L0 f w < 0∧L0 f w+4294967296=(immN f w:Int)) ∨ (0≤L0 f w∧L0 f w=(immN f w:Int))):=by
  unfold immN L0
  obtain⟨x0,e0,h0⟩:=fN w 4096 1048576 (by decide)
  obtain⟨x1,e1,h1⟩:=fN w 2147483648 2 (by decide)
  obtain⟨x2,e2,h2⟩:=fN w 2097152 1024 (by decide)
  obtain⟨x3,e3,h3⟩:=fN w 1048576 2 (by decide)
  obtain⟨x4,e4,h4⟩:=fN w 4096 256 (by decide)
  obtain⟨x5,e5,h5⟩:=fN w 1048576 4096 (by decide)
  obtain⟨x6,e6,h6⟩:=fN w 1048576 32 (by decide)
  obtain⟨x7,e7,h7⟩:=fN w 33554432 128 (by decide)
  obtain⟨x8,e8,h8⟩:=fN w 128 32 (by decide)
  obtain⟨y1,f1,g1⟩:=fN w 33554432 64 (by decide)
  obtain⟨y2,f2,g2⟩:=fN w 256 16 (by decide)
  obtain⟨y3,f3,g3⟩:=fN w 128 2 (by decide)
  rw [e0,e1,e2,e3,e4,e5,e6,e7,e8,f1,f2,f3]
  clear e0 e1 e2 e3 e4 e5 e6 e7 e8 f1 f2 f3
  by_cases h:f=85
  · rw [if_pos h,if_pos h]; clear h1 h2 h3 h4 h5 h6 h7 h8 g1 g2 g3; split <;> omega
  rw [if_neg h,if_neg h]
  by_cases h:f=74
  · rw [if_pos h,if_pos h]; clear h0 h5 h6 h7 h8 g1 g2 g3; omega
  rw [if_neg h,if_neg h]
  by_cases h:f=73
  · rw [if_pos h,if_pos h]; clear h0 h1 h2 h3 h4 h6 h7 h8 g1 g2 g3; split <;> omega
  rw [if_neg h,if_neg h]
  by_cases h:f=72
  · rw [if_pos h,if_pos h]; clear h0 h1 h2 h3 h4 h5 h7 h8 g1 g2 g3; omega
  rw [if_neg h,if_neg h]
  by_cases h:f=83
  · rw [if_pos h,if_pos h]; clear h0 h1 h2 h3 h4 h5 h6 g1 g2 g3; split <;> omega
  rw [if_neg h,if_neg h]
  by_cases h:f=66
  · rw [if_pos h,if_pos h]; clear h0 h2 h3 h4 h5 h6 h7 h8; omega
  rw [if_neg h,if_neg h]
  omega
theorem mvP {n:Int} {w:Nat} (hw:w < 4294967296) (h:(n < 0∧n+4294967296=(w:Int)) ∨ (0≤n∧n=(w:Int))) {a b c:Int} {p q r:Nat} (ha:0≤a∧a≤b∧b < 32) (hc:0≤c∧c+(b - a+1)≤32)
    (hp:2 ^ a.toNat=p) (hq:2 ^ (b - a+1).toNat=q) (hr:2 ^ c.toNat=r):Y0 n a b c=some ((w / p % q * r:Nat):Int):=by
  subst hp hq hr
  exact Y0z hw h ha hc
theorem w64_2 {a b:Int} (ha:0≤a∧a≤4294967296) (hb:0≤b∧b≤4294967296):IntKind.wrap .i64 (a+b)=a+b:=w64 (by omega)
theorem w64_4 {a b c d:Int} (ha:0≤a∧a≤4294967296) (hb:0≤b∧b≤4294967296) (hc:0≤c∧c≤4294967296) (hd:0≤d∧d≤4294967296) :
    IntKind.wrap .i64 (IntKind.wrap .i64 (IntKind.wrap .i64 (a+b)+c)+d)=a+b+c+d:=by
  rw [w64 (x:=a+b) (by omega),w64 (x:=a+b+c) (by omega),w64 (by omega)]
theorem S8 {w:Nat} {o:Int} (hf:Z2 o ≠ 0):M8 (Z2 o) (L0 (Z2 o) w)=some ((sprN (Z2 o) w:Nat):Int):=by
  obtain⟨hN,hA⟩:=immN_at (Z2 o) w
  have mv:=fun {a b c:Int} {p q r:Nat} ha hc hp hq hr=>mvP hN hA (a:=a) (b:=b) (c:=c) (p:=p) (q:=q) (r:=r) ha hc hp hq hr
  clear hN hA
  unfold M8 sprN
  unfold immN at mv
  generalize L0 (Z2 o) w=n at mv ⊢
  obtain⟨x0,e0,h0⟩:=fN w 4096 1048576 (by decide)
  obtain⟨x1,e1,h1⟩:=fN w 2147483648 2 (by decide)
  obtain⟨x2,e2,h2⟩:=fN w 2097152 1024 (by decide)
  obtain⟨x3,e3,h3⟩:=fN w 1048576 2 (by decide)
  obtain⟨x4,e4,h4⟩:=fN w 4096 256 (by decide)
  obtain⟨x5,e5,h5⟩:=fN w 1048576 4096 (by decide)
  obtain⟨x6,e6,h6⟩:=fN w 1048576 32 (by decide)
  obtain⟨x7,e7,h7⟩:=fN w 33554432 128 (by decide)
  obtain⟨x8,e8,h8⟩:=fN w 128 32 (by decide)
  obtain⟨y1,f1,g1⟩:=fN w 33554432 64 (by decide)
  obtain⟨y2,f2,g2⟩:=fN w 256 16 (by decide)
  obtain⟨y3,f3,g3⟩:=fN w 128 2 (by decide)
  rw [e0,e1,e2,e3,e4,e5,e6,e7,e8,f1,f2,f3]
  simp only [e0,e1,e2,e3,e4,e5,e6,e7,e8,f1,f2,f3] at mv
  clear e0 e1 e2 e3 e4 e5 e6 e7 e8 f1 f2 f3
  have cf : ∀ {a b:Int} {A:Type} {x y:A},a ≠ b→(bif a == b then x else y)=y:=fun h=>c0 (by simpa using h)
  have ct : ∀ {a:Int} {A:Type} {x y:A},(bif a == a then x else y)=x:=c1 (by simp)
  generalize Z2 o=f at *
  by_cases h:f=85
  · subst h
    simp only [if_true] at mv ⊢
    rw [ct,mv (a:=12) (b:=31) (c:=12) (p:=4096) (q:=1048576) (r:=4096) (by decide) (by decide) (by decide) (by decide) (by decide),Option.bind_some]
    clear mv cf ct
    refine congrArg (fun z:Nat=>some (z:Int)) ?_
    omega
  rw [if_neg h,cf h]; simp only [if_neg h] at mv
  by_cases h:f=74
  · subst h
    simp only [if_true] at mv ⊢
    rw [ct,mv (a:=20) (b:=20) (c:=31) (p:=1048576) (q:=2) (r:=2147483648) (by decide) (by decide) (by decide) (by decide) (by decide),Option.bind_some,
      mv (a:=1) (b:=10) (c:=21) (p:=2) (q:=1024) (r:=2097152) (by decide) (by decide) (by decide) (by decide) (by decide),Option.bind_some,
      mv (a:=11) (b:=11) (c:=20) (p:=2048) (q:=2) (r:=1048576) (by decide) (by decide) (by decide) (by decide) (by decide),Option.bind_some,
      mv (a:=12) (b:=19) (c:=12) (p:=4096) (q:=256) (r:=4096) (by decide) (by decide) (by decide) (by decide) (by decide),Option.bind_some]
    clear mv cf ct
    have q0:(x2 * 2+x3 * 2048+x4 * 4096+x1 * 4293918720) / 1048576 % 2=x1:=by omega
    have q1:(x2 * 2+x3 * 2048+x4 * 4096+x1 * 4293918720) / 2 % 1024=x2:=by omega
    have q2:(x2 * 2+x3 * 2048+x4 * 4096+x1 * 4293918720) / 2048 % 2=x3:=by omega
    have q3:(x2 * 2+x3 * 2048+x4 * 4096+x1 * 4293918720) / 4096 % 256=x4:=by omega
    simp only [q0,q1,q2,q3]
    exact congrArg some ((w64_4 (by omega) (by omega) (by omega) (by omega)).trans (by omega))
  rw [if_neg h,cf h]; simp only [if_neg h] at mv
  by_cases h:f=73
  · subst h
    simp only [if_true] at mv ⊢
    rw [ct,mv (a:=0) (b:=11) (c:=20) (p:=1) (q:=4096) (r:=1048576) (by decide) (by decide) (by decide) (by decide) (by decide),Option.bind_some]
    clear mv cf ct
    refine congrArg (fun z:Nat=>some (z:Int)) ?_
    split <;> omega
  rw [if_neg h,cf h]; simp only [if_neg h] at mv
  by_cases h:f=72
  · subst h
    simp only [if_true] at mv ⊢
    rw [ct,mv (a:=0) (b:=4) (c:=20) (p:=1) (q:=32) (r:=1048576) (by decide) (by decide) (by decide) (by decide) (by decide),Option.bind_some]
    clear mv cf ct
    refine congrArg (fun z:Nat=>some (z:Int)) ?_
    omega
  rw [if_neg h,cf h]; simp only [if_neg h] at mv
  by_cases h:f=83
  · subst h
    simp only [if_true] at mv ⊢
    rw [ct,mv (a:=0) (b:=4) (c:=7) (p:=1) (q:=32) (r:=128) (by decide) (by decide) (by decide) (by decide) (by decide),Option.bind_some,
      mv (a:=5) (b:=11) (c:=25) (p:=32) (q:=128) (r:=33554432) (by decide) (by decide) (by decide) (by decide) (by decide),Option.bind_some]
    clear mv cf ct
    have z1:(if 64≤x7 then x7 * 32+x8+4294963200 else x7 * 32+x8) / 1 % 32=x8:=by split <;> omega
    have z2:(if 64≤x7 then x7 * 32+x8+4294963200 else x7 * 32+x8) / 32 % 128=x7:=by split <;> omega
    simp only [z1,z2]
    exact congrArg some ((w64_2 (by omega) (by omega)).trans (by omega))
  rw [if_neg h,cf h]; simp only [if_neg h] at mv
  by_cases h:f=66
  · subst h
    simp only [if_true] at mv ⊢
    rw [ct,mv (a:=12) (b:=12) (c:=31) (p:=4096) (q:=2) (r:=2147483648) (by decide) (by decide) (by decide) (by decide) (by decide),Option.bind_some,
      mv (a:=5) (b:=10) (c:=25) (p:=32) (q:=64) (r:=33554432) (by decide) (by decide) (by decide) (by decide) (by decide),Option.bind_some,
      mv (a:=1) (b:=4) (c:=8) (p:=2) (q:=16) (r:=256) (by decide) (by decide) (by decide) (by decide) (by decide),Option.bind_some,
      mv (a:=11) (b:=11) (c:=7) (p:=2048) (q:=2) (r:=128) (by decide) (by decide) (by decide) (by decide) (by decide),Option.bind_some]
    clear mv cf ct
    have q0:(y1 * 32+y2 * 2+y3 * 2048+x1 * 4294963200) / 4096 % 2=x1:=by omega
    have q1:(y1 * 32+y2 * 2+y3 * 2048+x1 * 4294963200) / 32 % 64=y1:=by omega
    have q2:(y1 * 32+y2 * 2+y3 * 2048+x1 * 4294963200) / 2 % 16=y2:=by omega
    have q3:(y1 * 32+y2 * 2+y3 * 2048+x1 * 4294963200) / 2048 % 2=y3:=by omega
    simp only [q0,q1,q2,q3]
    exact congrArg some ((w64_4 (by omega) (by omega) (by omega) (by omega)).trans (by omega))
  rw [if_neg h,cf h]
  rfl
theorem dcmp82 {w:Nat} (hw:w < 4294967296):w=w % 128+w / 128 % 32 * 128+w / 4096 % 8 * 4096+w / 32768 % 32 * 32768+w / 1048576 % 32 * 1048576+w / 33554432 % 128 * 33554432:=by
  have h1:w / 128=w / 128 % 32+w / 4096 * 32:=by omega
  have h2:w / 4096=w / 4096 % 8+w / 32768 * 8:=by omega
  have h3:w / 32768=w / 32768 % 32+w / 1048576 * 32:=by omega
  have h4:w / 1048576=w / 1048576 % 32+w / 33554432 * 32:=by omega
  have hl:w / 33554432 % 128=w / 33554432:=by omega
  have h0:w=w % 128+w / 128 * 128:=by omega
  rw [hl]
  generalize w % 128=x0 at *
  generalize w / 128 % 32=x1 at *
  generalize w / 4096 % 8=x2 at *
  generalize w / 32768 % 32=x3 at *
  generalize w / 1048576 % 32=x4 at *
  generalize w / 33554432=y5 at *
  generalize w / 128=y1 at *
  generalize w / 4096=y2 at *
  generalize w / 32768=y3 at *
  generalize w / 1048576=y4 at *
  omega
theorem dcmp72 {w:Nat} (hw:w < 4294967296):w=w % 128+w / 128 % 32 * 128+w / 4096 % 8 * 4096+w / 32768 % 32 * 32768+w / 1048576 % 32 * 1048576+w / 33554432 % 128 * 33554432:=by
  have h1:w / 128=w / 128 % 32+w / 4096 * 32:=by omega
  have h2:w / 4096=w / 4096 % 8+w / 32768 * 8:=by omega
  have h3:w / 32768=w / 32768 % 32+w / 1048576 * 32:=by omega
  have h4:w / 1048576=w / 1048576 % 32+w / 33554432 * 32:=by omega
  have hl:w / 33554432 % 128=w / 33554432:=by omega
  have h0:w=w % 128+w / 128 * 128:=by omega
  rw [hl]
  generalize w % 128=x0 at *
  generalize w / 128 % 32=x1 at *
  generalize w / 4096 % 8=x2 at *
  generalize w / 32768 % 32=x3 at *
  generalize w / 1048576 % 32=x4 at *
  generalize w / 33554432=y5 at *
  generalize w / 128=y1 at *
  generalize w / 4096=y2 at *
  generalize w / 32768=y3 at *
  generalize w / 1048576=y4 at *
  omega
theorem dcmp85 {w:Nat} (hw:w < 4294967296):w=w % 128+w / 128 % 32 * 128+w / 4096 % 1048576 * 4096:=by
  have h1:w / 128=w / 128 % 32+w / 4096 * 32:=by omega
  have hl:w / 4096 % 1048576=w / 4096:=by omega
  have h0:w=w % 128+w / 128 * 128:=by omega
  rw [hl]
  generalize w % 128=x0 at *
  generalize w / 128 % 32=x1 at *
  generalize w / 4096=y2 at *
  generalize w / 128=y1 at *
  omega
theorem dcmp74 {w:Nat} (hw:w < 4294967296):w=w % 128+w / 128 % 32 * 128+w / 4096 % 256 * 4096+w / 1048576 % 2 * 1048576+w / 2097152 % 1024 * 2097152+w / 2147483648 % 2 * 2147483648:=by
  have h1:w / 128=w / 128 % 32+w / 4096 * 32:=by omega
  have h2:w / 4096=w / 4096 % 256+w / 1048576 * 256:=by omega
  have h3:w / 1048576=w / 1048576 % 2+w / 2097152 * 2:=by omega
  have h4:w / 2097152=w / 2097152 % 1024+w / 2147483648 * 1024:=by omega
  have hl:w / 2147483648 % 2=w / 2147483648:=by omega
  have h0:w=w % 128+w / 128 * 128:=by omega
  rw [hl]
  generalize w % 128=x0 at *
  generalize w / 128 % 32=x1 at *
  generalize w / 4096 % 256=x2 at *
  generalize w / 1048576 % 2=x3 at *
  generalize w / 2097152 % 1024=x4 at *
  generalize w / 2147483648=y5 at *
  generalize w / 128=y1 at *
  generalize w / 4096=y2 at *
  generalize w / 1048576=y3 at *
  generalize w / 2097152=y4 at *
  omega
theorem dcmp66 {w:Nat} (hw:w < 4294967296):w=w % 128+w / 128 % 2 * 128+w / 256 % 16 * 256+w / 4096 % 8 * 4096+w / 32768 % 32 * 32768+w / 1048576 % 32 * 1048576+w / 33554432 % 64 * 33554432+w / 2147483648 % 2 * 2147483648:=by
  have h1:w / 128=w / 128 % 2+w / 256 * 2:=by omega
  have h2:w / 256=w / 256 % 16+w / 4096 * 16:=by omega
  have h3:w / 4096=w / 4096 % 8+w / 32768 * 8:=by omega
  have h4:w / 32768=w / 32768 % 32+w / 1048576 * 32:=by omega
  have h5:w / 1048576=w / 1048576 % 32+w / 33554432 * 32:=by omega
  have h6:w / 33554432=w / 33554432 % 64+w / 2147483648 * 64:=by omega
  have hl:w / 2147483648 % 2=w / 2147483648:=by omega
  have h0:w=w % 128+w / 128 * 128:=by omega
  rw [hl]
  generalize w % 128=x0 at *
  generalize w / 128 % 2=x1 at *
  generalize w / 256 % 16=x2 at *
  generalize w / 4096 % 8=x3 at *
  generalize w / 32768 % 32=x4 at *
  generalize w / 1048576 % 32=x5 at *
  generalize w / 33554432 % 64=x6 at *
  generalize w / 2147483648=y7 at *
  generalize w / 128=y1 at *
  generalize w / 256=y2 at *
  generalize w / 4096=y3 at *
  generalize w / 32768=y4 at *
  generalize w / 1048576=y5 at *
  generalize w / 33554432=y6 at *
  omega
theorem dcmp83 {w:Nat} (hw:w < 4294967296):w=w % 128+w / 128 % 32 * 128+w / 4096 % 8 * 4096+w / 32768 % 32 * 32768+w / 1048576 % 32 * 1048576+w / 33554432 % 128 * 33554432:=by
  have h1:w / 128=w / 128 % 32+w / 4096 * 32:=by omega
  have h2:w / 4096=w / 4096 % 8+w / 32768 * 8:=by omega
  have h3:w / 32768=w / 32768 % 32+w / 1048576 * 32:=by omega
  have h4:w / 1048576=w / 1048576 % 32+w / 33554432 * 32:=by omega
  have hl:w / 33554432 % 128=w / 33554432:=by omega
  have h0:w=w % 128+w / 128 * 128:=by omega
  rw [hl]
  generalize w % 128=x0 at *
  generalize w / 128 % 32=x1 at *
  generalize w / 4096 % 8=x2 at *
  generalize w / 32768 % 32=x3 at *
  generalize w / 1048576 % 32=x4 at *
  generalize w / 33554432=y5 at *
  generalize w / 128=y1 at *
  generalize w / 4096=y2 at *
  generalize w / 32768=y3 at *
  generalize w / 1048576=y4 at *
  omega
theorem dcmp73 {w:Nat} (hw:w < 4294967296):w=w % 128+w / 128 % 32 * 128+w / 4096 % 8 * 4096+w / 32768 % 32 * 32768+w / 1048576 % 4096 * 1048576:=by
  have h1:w / 128=w / 128 % 32+w / 4096 * 32:=by omega
  have h2:w / 4096=w / 4096 % 8+w / 32768 * 8:=by omega
  have h3:w / 32768=w / 32768 % 32+w / 1048576 * 32:=by omega
  have hl:w / 1048576 % 4096=w / 1048576:=by omega
  have h0:w=w % 128+w / 128 * 128:=by omega
  rw [hl]
  generalize w % 128=x0 at *
  generalize w / 128 % 32=x1 at *
  generalize w / 4096 % 8=x2 at *
  generalize w / 32768 % 32=x3 at *
  generalize w / 1048576=y4 at *
  generalize w / 128=y1 at *
  generalize w / 4096=y2 at *
  generalize w / 32768=y3 at *
  omega
theorem sum82 {w c t s:Nat} (hw:w < 4294967296) (hc:c < 128) (ht:t < 8) (hs:s < 128):c+w / 128 % 32 * 128+t * 4096+w / 32768 % 32 * 32768+w / 1048576 % 32 * 1048576+s * 33554432+(0) < 4294967296∧(c+w / 128 % 32 * 128+t * 4096+w / 32768 % 32 * 32768+w / 1048576 % 32 * 1048576+s * 33554432+(0)=w ↔ w % 128=c∧w / 4096 % 8=t∧w / 33554432 % 128=s):=by
  have hp:=dcmp82 hw
  obtain⟨x0,e0,g0⟩:=fN w 1 128 (by decide)
  rw [Nat.div_one] at e0
  obtain⟨x1,e1,g1⟩:=fN w 128 32 (by decide)
  obtain⟨x2,e2,g2⟩:=fN w 4096 8 (by decide)
  obtain⟨x3,e3,g3⟩:=fN w 32768 32 (by decide)
  obtain⟨x4,e4,g4⟩:=fN w 1048576 32 (by decide)
  obtain⟨x5,e5,g5⟩:=fN w 33554432 128 (by decide)
  rw [e0,e1,e2,e3,e4,e5] at hp ⊢
  clear e0 e1 e2 e3 e4 e5
  omega
theorem sum72 {w c t s:Nat} (hw:w < 4294967296) (hc:c < 128) (ht:t < 8) (hs:s < 128):c+w / 128 % 32 * 128+t * 4096+w / 32768 % 32 * 32768+0 * 1048576+s * 33554432+(w / 1048576 % 32 * 1048576) < 4294967296∧(c+w / 128 % 32 * 128+t * 4096+w / 32768 % 32 * 32768+0 * 1048576+s * 33554432+(w / 1048576 % 32 * 1048576)=w ↔ w % 128=c∧w / 4096 % 8=t∧w / 33554432 % 128=s):=by
  have hp:=dcmp72 hw
  obtain⟨x0,e0,g0⟩:=fN w 1 128 (by decide)
  rw [Nat.div_one] at e0
  obtain⟨x1,e1,g1⟩:=fN w 128 32 (by decide)
  obtain⟨x2,e2,g2⟩:=fN w 4096 8 (by decide)
  obtain⟨x3,e3,g3⟩:=fN w 32768 32 (by decide)
  obtain⟨x4,e4,g4⟩:=fN w 1048576 32 (by decide)
  obtain⟨x5,e5,g5⟩:=fN w 33554432 128 (by decide)
  rw [e0,e1,e2,e3,e4,e5] at hp ⊢
  clear e0 e1 e2 e3 e4 e5
  omega
theorem sum85 {w c t s:Nat} (hw:w < 4294967296) (hc:c < 128) (ht:t < 8) (hs:s < 128):c+w / 128 % 32 * 128+0 * 4096+0 * 32768+0 * 1048576+0 * 33554432+(w / 4096 % 1048576 * 4096) < 4294967296∧(c+w / 128 % 32 * 128+0 * 4096+0 * 32768+0 * 1048576+0 * 33554432+(w / 4096 % 1048576 * 4096)=w ↔ w % 128=c):=by
  have hp:=dcmp85 hw
  obtain⟨x0,e0,g0⟩:=fN w 1 128 (by decide)
  rw [Nat.div_one] at e0
  obtain⟨x1,e1,g1⟩:=fN w 128 32 (by decide)
  obtain⟨x2,e2,g2⟩:=fN w 4096 1048576 (by decide)
  rw [e0,e1,e2] at hp ⊢
  clear e0 e1 e2
  omega
theorem sum74 {w c t s:Nat} (hw:w < 4294967296) (hc:c < 128) (ht:t < 8) (hs:s < 128):c+w / 128 % 32 * 128+0 * 4096+0 * 32768+0 * 1048576+0 * 33554432+(w / 2147483648 % 2 * 2147483648+w / 2097152 % 1024 * 2097152+w / 1048576 % 2 * 1048576+w / 4096 % 256 * 4096) < 4294967296∧(c+w / 128 % 32 * 128+0 * 4096+0 * 32768+0 * 1048576+0 * 33554432+(w / 2147483648 % 2 * 2147483648+w / 2097152 % 1024 * 2097152+w / 1048576 % 2 * 1048576+w / 4096 % 256 * 4096)=w ↔ w % 128=c):=by
  have hp:=dcmp74 hw
  obtain⟨x0,e0,g0⟩:=fN w 1 128 (by decide)
  rw [Nat.div_one] at e0
  obtain⟨x1,e1,g1⟩:=fN w 128 32 (by decide)
  obtain⟨x2,e2,g2⟩:=fN w 4096 256 (by decide)
  obtain⟨x3,e3,g3⟩:=fN w 1048576 2 (by decide)
  obtain⟨x4,e4,g4⟩:=fN w 2097152 1024 (by decide)
  obtain⟨x5,e5,g5⟩:=fN w 2147483648 2 (by decide)
  rw [e0,e1,e2,e3,e4,e5] at hp ⊢
  clear e0 e1 e2 e3 e4 e5
  omega
theorem sum66 {w c t s:Nat} (hw:w < 4294967296) (hc:c < 128) (ht:t < 8) (hs:s < 128):c+0 * 128+t * 4096+w / 32768 % 32 * 32768+w / 1048576 % 32 * 1048576+0 * 33554432+(w / 2147483648 % 2 * 2147483648+w / 33554432 % 64 * 33554432+w / 256 % 16 * 256+w / 128 % 2 * 128) < 4294967296∧(c+0 * 128+t * 4096+w / 32768 % 32 * 32768+w / 1048576 % 32 * 1048576+0 * 33554432+(w / 2147483648 % 2 * 2147483648+w / 33554432 % 64 * 33554432+w / 256 % 16 * 256+w / 128 % 2 * 128)=w ↔ w % 128=c∧w / 4096 % 8=t):=by
  have hp:=dcmp66 hw
  obtain⟨x0,e0,g0⟩:=fN w 1 128 (by decide)
  rw [Nat.div_one] at e0
  obtain⟨x1,e1,g1⟩:=fN w 128 2 (by decide)
  obtain⟨x2,e2,g2⟩:=fN w 256 16 (by decide)
  obtain⟨x3,e3,g3⟩:=fN w 4096 8 (by decide)
  obtain⟨x4,e4,g4⟩:=fN w 32768 32 (by decide)
  obtain⟨x5,e5,g5⟩:=fN w 1048576 32 (by decide)
  obtain⟨x6,e6,g6⟩:=fN w 33554432 64 (by decide)
  obtain⟨x7,e7,g7⟩:=fN w 2147483648 2 (by decide)
  rw [e0,e1,e2,e3,e4,e5,e6,e7] at hp ⊢
  clear e0 e1 e2 e3 e4 e5 e6 e7
  omega
theorem sum83 {w c t s:Nat} (hw:w < 4294967296) (hc:c < 128) (ht:t < 8) (hs:s < 128):c+0 * 128+t * 4096+w / 32768 % 32 * 32768+w / 1048576 % 32 * 1048576+0 * 33554432+(w / 128 % 32 * 128+w / 33554432 % 128 * 33554432) < 4294967296∧(c+0 * 128+t * 4096+w / 32768 % 32 * 32768+w / 1048576 % 32 * 1048576+0 * 33554432+(w / 128 % 32 * 128+w / 33554432 % 128 * 33554432)=w ↔ w % 128=c∧w / 4096 % 8=t):=by
  have hp:=dcmp83 hw
  obtain⟨x0,e0,g0⟩:=fN w 1 128 (by decide)
  rw [Nat.div_one] at e0
  obtain⟨x1,e1,g1⟩:=fN w 128 32 (by decide)
  obtain⟨x2,e2,g2⟩:=fN w 4096 8 (by decide)
  obtain⟨x3,e3,g3⟩:=fN w 32768 32 (by decide)
  obtain⟨x4,e4,g4⟩:=fN w 1048576 32 (by decide)
  obtain⟨x5,e5,g5⟩:=fN w 33554432 128 (by decide)
  rw [e0,e1,e2,e3,e4,e5] at hp ⊢
  clear e0 e1 e2 e3 e4 e5
  omega
theorem sum73 {w c t s:Nat} (hw:w < 4294967296) (hc:c < 128) (ht:t < 8) (hs:s < 128):c+w / 128 % 32 * 128+t * 4096+w / 32768 % 32 * 32768+0 * 1048576+0 * 33554432+(w / 1048576 % 4096 * 1048576) < 4294967296∧(c+w / 128 % 32 * 128+t * 4096+w / 32768 % 32 * 32768+0 * 1048576+0 * 33554432+(w / 1048576 % 4096 * 1048576)=w ↔ w % 128=c∧w / 4096 % 8=t):=by
  have hp:=dcmp73 hw
  obtain⟨x0,e0,g0⟩:=fN w 1 128 (by decide)
  rw [Nat.div_one] at e0
  obtain⟨x1,e1,g1⟩:=fN w 128 32 (by decide)
  obtain⟨x2,e2,g2⟩:=fN w 4096 8 (by decide)
  obtain⟨x3,e3,g3⟩:=fN w 32768 32 (by decide)
  obtain⟨x4,e4,g4⟩:=fN w 1048576 4096 (by decide)
  rw [e0,e1,e2,e3,e4] at hp ⊢
  clear e0 e1 e2 e3 e4
  omega
theorem w64_7 {a b c d e f g:Int} (ha:0≤a∧a≤4294967296) (hb:0≤b∧b≤4294967296) (hc:0≤c∧c≤4294967296) (hd:0≤d∧d≤4294967296) (he:0≤e∧e≤4294967296) (hf:0≤f∧f≤4294967296) (hg:0≤g∧g≤4294967296) :
    IntKind.wrap .i64 (IntKind.wrap .i64 (IntKind.wrap .i64 (IntKind.wrap .i64 (IntKind.wrap .i64 (IntKind.wrap .i64 (a+b)+c)+d)+e)+f)+g)=a+b+c+d+e+f+g:=by
  rw [w64 (x:=a+b) (by omega),w64 (x:=a+b+c) (by omega),w64 (x:=a+b+c+d) (by omega),w64 (x:=a+b+c+d+e) (by omega),w64 (x:=a+b+c+d+e+f) (by omega),w64 (by omega)]
theorem Q1m {i:V4} {c t s d a b n:Nat} (hd:i.Rd=(d:Int)) (ha:i.Rs1=(a:Int)) (hb:i.Rs2=(b:Int)) (kc:R6 i.Op=some (c:Int)) (kt:H8 i.Op=some (t:Int)) (ks:P7 i.Op=some (s:Int))
    (kn:M8 (Z2 i.Op) i.Imm=some (n:Int)) (h:c+d * 128+t * 4096+a * 32768+b * 1048576+s * 33554432+n < 4294967296) :
    J7 i=some ((c+d * 128+t * 4096+a * 32768+b * 1048576+s * 33554432+n:Nat):Int):=by
  unfold J7
  rw [Z1l,Option.bind_some,kc,Option.bind_some,Q1z (by decide),Option.bind_some,kt,Option.bind_some,Q1z (by decide),Option.bind_some,Q1z (by decide),Option.bind_some,Q1z (by decide),Option.bind_some,ks,Option.bind_some,Q1z (by decide),Option.bind_some,kn,Option.bind_some,hd,ha,hb]
  rw [show ((2 ^ Int.toNat 7:Nat):Int)=128 by decide,show ((2 ^ Int.toNat 12:Nat):Int)=4096 by decide,show ((2 ^ Int.toNat 15:Nat):Int)=32768 by decide,show ((2 ^ Int.toNat 20:Nat):Int)=1048576 by decide,show ((2 ^ Int.toNat 25:Nat):Int)=33554432 by decide]
  have e1:IntKind.wrap .i64 ((d:Int) * 128)=(d:Int) * 128:=w64 (by omega)
  have e2:IntKind.wrap .i64 ((t:Int) * 4096)=(t:Int) * 4096:=w64 (by omega)
  have e3:IntKind.wrap .i64 ((a:Int) * 32768)=(a:Int) * 32768:=w64 (by omega)
  have e4:IntKind.wrap .i64 ((b:Int) * 1048576)=(b:Int) * 1048576:=w64 (by omega)
  have e5:IntKind.wrap .i64 ((s:Int) * 33554432)=(s:Int) * 33554432:=w64 (by omega)
  rw [e1,e2,e3,e4,e5]
  rw [w64_7 (by omega) (by omega) (by omega) (by omega) (by omega) (by omega) (by omega)]
  have g:(c:Int)+(d:Int) * 128+(t:Int) * 4096+(a:Int) * 32768+(b:Int) * 1048576+(s:Int) * 33554432+(n:Int)=((c+d * 128+t * 4096+a * 32768+b * 1048576+s * 33554432+n:Nat):Int):=by omega
  rw [g,Q2j h]
theorem fit82 {w:Nat} (hw:w < 4294967296) {o:Int} (e:Z2 o=82):N0 o w ↔ w % 128=cNq o∧w / 4096 % 8=tN o∧w / 33554432 % 128=sNq o:=by
  unfold N0
  rw [e]
  omega
theorem wd82 {w:Nat} (hw:w < 4294967296) {o:Int} (ho:1≤o∧o≤45) (e:Z2 o=82) : ∃ v:Nat,J7 (J5 o w)=some (v:Int)∧(v=w ↔ N0 o w):=by
  obtain⟨⟨c1,c2,c3⟩,⟨h1,h2,h3⟩,⟨k1,k2,k3⟩,hf,z1,z2⟩:=M2 ho
  have hS:=sum82 (c:=cNq o) (t:=tN o) (s:=sNq o) hw h1 h2 h3
  have hN:sprN (Z2 o) w=0:=by rw [e]; rfl
  have hd:(J5 o w).Rd=((w / 128 % 32:Nat):Int):=by unfold J5; rw [e]; rfl
  have ha:(J5 o w).Rs1=((w / 32768 % 32:Nat):Int):=by unfold J5; rw [e]; rfl
  have hb:(J5 o w).Rs2=((w / 1048576 % 32:Nat):Int):=by unfold J5; rw [e]; rfl
  have kn:=S8 (w:=w) hf
  rw [hN] at kn
  exact⟨_,Q1m hd ha hb k1 k2 k3 kn hS.1,hS.2.trans (fit82 hw e).symm⟩
theorem fit72 {w:Nat} (hw:w < 4294967296) {o:Int} (e:Z2 o=72):N0 o w ↔ w % 128=cNq o∧w / 4096 % 8=tN o∧w / 33554432 % 128=sNq o:=by
  unfold N0
  rw [e]
  omega
theorem wd72 {w:Nat} (hw:w < 4294967296) {o:Int} (ho:1≤o∧o≤45) (e:Z2 o=72) : ∃ v:Nat,J7 (J5 o w)=some (v:Int)∧(v=w ↔ N0 o w):=by
  obtain⟨⟨c1,c2,c3⟩,⟨h1,h2,h3⟩,⟨k1,k2,k3⟩,hf,z1,z2⟩:=M2 ho
  have hS:=sum72 (c:=cNq o) (t:=tN o) (s:=sNq o) hw h1 h2 h3
  have hN:sprN (Z2 o) w=w / 1048576 % 32 * 1048576:=by rw [e]; rfl
  have hd:(J5 o w).Rd=((w / 128 % 32:Nat):Int):=by unfold J5; rw [e]; rfl
  have ha:(J5 o w).Rs1=((w / 32768 % 32:Nat):Int):=by unfold J5; rw [e]; rfl
  have hb:(J5 o w).Rs2=((0:Nat):Int):=by unfold J5; rw [e]; rfl
  have kn:=S8 (w:=w) hf
  rw [hN] at kn
  exact⟨_,Q1m hd ha hb k1 k2 k3 kn hS.1,hS.2.trans (fit72 hw e).symm⟩
theorem fit85 {w:Nat} (hw:w < 4294967296) {o:Int} (e:Z2 o=85):N0 o w ↔ w % 128=cNq o:=by
  unfold N0
  rw [e]
  omega
theorem wd85 {w:Nat} (hw:w < 4294967296) {o:Int} (ho:1≤o∧o≤45) (e:Z2 o=85) : ∃ v:Nat,J7 (J5 o w)=some (v:Int)∧(v=w ↔ N0 o w):=by
  obtain⟨⟨c1,c2,c3⟩,⟨h1,h2,h3⟩,⟨k1,k2,k3⟩,hf,z1,z2⟩:=M2 ho
  have ht:tN o=0:=z1 (by rw [e]; decide)
  have hs:sNq o=0:=z2 (by rw [e]; decide) (by rw [e]; decide)
  have hS:=sum85 (c:=cNq o) (t:=tN o) (s:=sNq o) hw h1 h2 h3
  have hN:sprN (Z2 o) w=w / 4096 % 1048576 * 4096:=by rw [e]; rfl
  have hd:(J5 o w).Rd=((w / 128 % 32:Nat):Int):=by unfold J5; rw [e]; rfl
  have ha:(J5 o w).Rs1=((0:Nat):Int):=by unfold J5; rw [e]; rfl
  have hb:(J5 o w).Rs2=((0:Nat):Int):=by unfold J5; rw [e]; rfl
  have kn:=S8 (w:=w) hf
  rw [hN] at kn
  rw [ht] at k2
  rw [hs] at k3
  exact⟨_,Q1m hd ha hb k1 k2 k3 kn hS.1,hS.2.trans (fit85 hw e).symm⟩
theorem fit74 {w:Nat} (hw:w < 4294967296) {o:Int} (e:Z2 o=74):N0 o w ↔ w % 128=cNq o:=by
  unfold N0
  rw [e]
  omega
theorem wd74 {w:Nat} (hw:w < 4294967296) {o:Int} (ho:1≤o∧o≤45) (e:Z2 o=74) : ∃ v:Nat,J7 (J5 o w)=some (v:Int)∧(v=w ↔ N0 o w):=by
  obtain⟨⟨c1,c2,c3⟩,⟨h1,h2,h3⟩,⟨k1,k2,k3⟩,hf,z1,z2⟩:=M2 ho
  have ht:tN o=0:=z1 (by rw [e]; decide)
  have hs:sNq o=0:=z2 (by rw [e]; decide) (by rw [e]; decide)
  have hS:=sum74 (c:=cNq o) (t:=tN o) (s:=sNq o) hw h1 h2 h3
  have hN:sprN (Z2 o) w=w / 2147483648 % 2 * 2147483648+w / 2097152 % 1024 * 2097152+w / 1048576 % 2 * 1048576+w / 4096 % 256 * 4096:=by rw [e]; rfl
  have hd:(J5 o w).Rd=((w / 128 % 32:Nat):Int):=by unfold J5; rw [e]; rfl
  have ha:(J5 o w).Rs1=((0:Nat):Int):=by unfold J5; rw [e]; rfl
  have hb:(J5 o w).Rs2=((0:Nat):Int):=by unfold J5; rw [e]; rfl
  have kn:=S8 (w:=w) hf
  rw [hN] at kn
  rw [ht] at k2
  rw [hs] at k3
  exact⟨_,Q1m hd ha hb k1 k2 k3 kn hS.1,hS.2.trans (fit74 hw e).symm⟩
theorem fit66 {w:Nat} (hw:w < 4294967296) {o:Int} (e:Z2 o=66):N0 o w ↔ w % 128=cNq o∧w / 4096 % 8=tN o:=by
  unfold N0
  rw [e]
  omega
theorem wd66 {w:Nat} (hw:w < 4294967296) {o:Int} (ho:1≤o∧o≤45) (e:Z2 o=66) : ∃ v:Nat,J7 (J5 o w)=some (v:Int)∧(v=w ↔ N0 o w):=by
  obtain⟨⟨c1,c2,c3⟩,⟨h1,h2,h3⟩,⟨k1,k2,k3⟩,hf,z1,z2⟩:=M2 ho
  have hs:sNq o=0:=z2 (by rw [e]; decide) (by rw [e]; decide)
  have hS:=sum66 (c:=cNq o) (t:=tN o) (s:=sNq o) hw h1 h2 h3
  have hN:sprN (Z2 o) w=w / 2147483648 % 2 * 2147483648+w / 33554432 % 64 * 33554432+w / 256 % 16 * 256+w / 128 % 2 * 128:=by rw [e]; rfl
  have hd:(J5 o w).Rd=((0:Nat):Int):=by unfold J5; rw [e]; rfl
  have ha:(J5 o w).Rs1=((w / 32768 % 32:Nat):Int):=by unfold J5; rw [e]; rfl
  have hb:(J5 o w).Rs2=((w / 1048576 % 32:Nat):Int):=by unfold J5; rw [e]; rfl
  have kn:=S8 (w:=w) hf
  rw [hN] at kn
  rw [hs] at k3
  exact⟨_,Q1m hd ha hb k1 k2 k3 kn hS.1,hS.2.trans (fit66 hw e).symm⟩
theorem fit83 {w:Nat} (hw:w < 4294967296) {o:Int} (e:Z2 o=83):N0 o w ↔ w % 128=cNq o∧w / 4096 % 8=tN o:=by
  unfold N0
  rw [e]
  omega
theorem wd83 {w:Nat} (hw:w < 4294967296) {o:Int} (ho:1≤o∧o≤45) (e:Z2 o=83) : ∃ v:Nat,J7 (J5 o w)=some (v:Int)∧(v=w ↔ N0 o w):=by
  obtain⟨⟨c1,c2,c3⟩,⟨h1,h2,h3⟩,⟨k1,k2,k3⟩,hf,z1,z2⟩:=M2 ho
  have hs:sNq o=0:=z2 (by rw [e]; decide) (by rw [e]; decide)
  have hS:=sum83 (c:=cNq o) (t:=tN o) (s:=sNq o) hw h1 h2 h3
  have hN:sprN (Z2 o) w=w / 128 % 32 * 128+w / 33554432 % 128 * 33554432:=by rw [e]; rfl
  have hd:(J5 o w).Rd=((0:Nat):Int):=by unfold J5; rw [e]; rfl
  have ha:(J5 o w).Rs1=((w / 32768 % 32:Nat):Int):=by unfold J5; rw [e]; rfl
  have hb:(J5 o w).Rs2=((w / 1048576 % 32:Nat):Int):=by unfold J5; rw [e]; rfl
  have kn:=S8 (w:=w) hf
  rw [hN] at kn
  rw [hs] at k3
  exact⟨_,Q1m hd ha hb k1 k2 k3 kn hS.1,hS.2.trans (fit83 hw e).symm⟩
theorem fit73 {w:Nat} (hw:w < 4294967296) {o:Int} (e:Z2 o=73):N0 o w ↔ w % 128=cNq o∧w / 4096 % 8=tN o:=by
  unfold N0
  rw [e]
  omega
theorem wd73 {w:Nat} (hw:w < 4294967296) {o:Int} (ho:1≤o∧o≤45) (e:Z2 o=73) : ∃ v:Nat,J7 (J5 o w)=some (v:Int)∧(v=w ↔ N0 o w):=by
  obtain⟨⟨c1,c2,c3⟩,⟨h1,h2,h3⟩,⟨k1,k2,k3⟩,hf,z1,z2⟩:=M2 ho
  have hs:sNq o=0:=z2 (by rw [e]; decide) (by rw [e]; decide)
  have hS:=sum73 (c:=cNq o) (t:=tN o) (s:=sNq o) hw h1 h2 h3
  have hN:sprN (Z2 o) w=w / 1048576 % 4096 * 1048576:=by rw [e]; rfl
  have hd:(J5 o w).Rd=((w / 128 % 32:Nat):Int):=by unfold J5; rw [e]; rfl
  have ha:(J5 o w).Rs1=((w / 32768 % 32:Nat):Int):=by unfold J5; rw [e]; rfl
  have hb:(J5 o w).Rs2=((0:Nat):Int):=by unfold J5; rw [e]; rfl
  have kn:=S8 (w:=w) hf
  rw [hN] at kn
  rw [hs] at k3
  exact⟨_,Q1m hd ha hb k1 k2 k3 kn hS.1,hS.2.trans (fit73 hw e).symm⟩
theorem Word_dec {w:Nat} (hw:w < 4294967296) {o:Int} (ho:1≤o∧o≤45) : ∃ v:Nat,J7 (J5 o w)=some (v:Int)∧(v=w ↔ N0 o w):=by
  rcases forms o with e | e | e | e | e | e | e | e
  · exact absurd e (M2 ho).2.2.2.1
  · exact wd82 hw ho e
  · exact wd85 hw ho e
  · exact wd74 hw ho e
  · exact wd66 hw ho e
  · exact wd83 hw ho e
  · exact wd73 hw ho e
  · exact wd72 hw ho e
def decO (w:Nat):Option Int:=((List.range 45).findIdx? fun(k:Nat)=>decide (N0 ((k:Int)+1) w)).map fun k=>(k:Int)+1
def Q2e (w:Nat):V4×Int:=match decO w with
  | some o=>(J5 o w,0)
  | none=>(⟨0,0,0,0,0⟩,3)
theorem Z8o {w:Nat} {body:Int→Option (Lp Int (V4×Int))} {K:Lp Int (V4×Int)→Option (V4×Int)} (hs : ∀ o,1≤o∧o≤45→body o=some (bif decide (N0 o w) then .ret (J5 o w,0) else .go (IntKind.wrap .i64 (o+1)))) (he:body 46=some (.brk 46))
    (h1:K (.brk 46)=some (⟨0,0,0,0,0⟩,3)) (h2 : ∀ r,K (.ret r)=some r):(Y9 body NN 1).bind K=some (Q2e w):=by
  unfold Q2e decO
  have hw : ∀ k:Nat,k < 45→IntKind.wrap .i64 ((k:Int)+1+1)=((k+1:Nat):Int)+1:=fun k hk=>by rw [w64 (by omega)]; omega
  cases hf:(List.range 45).findIdx? fun(k:Nat)=>decide (N0 ((k:Int)+1) w) with
  | none =>
    have hn:=List.findIdx?_eq_none_iff.1 hf
    refine run_bind (fun k=>(k:Int)+1) 45 (.brk 46) rfl (by omega) (fun k hk => ?_) (by rw [show (((45:Nat):Int)+1)=46 from rfl]; exact he) trivial h1
    rw [hs _ (by omega),hn k (List.mem_range.2 hk),cond_false,hw k hk]
  | some i =>
    obtain⟨hi,hp,hlt⟩:=List.findIdx?_eq_some_iff_getElem.1 hf
    rw [List.length_range] at hi
    rw [List.getElem_range] at hp
    refine run_bind (fun k=>(k:Int)+1) i (.ret (J5 ((i:Int)+1) w,0)) rfl (by omega) (fun k hk => ?_) ?_ trivial (h2 _)
    · have:=hlt k hk
      rw [List.getElem_range] at this
      rw [hs _ (by omega),show decide (N0 ((k:Int)+1) w)=false by simpa using this,cond_false,hw k (by omega)]
    · rw [hs _ (by omega),hp,cond_true]
theorem Z5k {w:Nat} (hw:w < 4294967296):E6 (w:Int)=some (Q2e w):=by
  unfold E6
  rw [show S5=some tbl1 from rfl,Option.bind_some]
  unfold J0
  rw [if_pos (show tbl1.length=46 from rfl),Option.bind_some]
  refine Z8o (fun o ho => ?_) ?_ rfl (fun _=>rfl)
  · obtain⟨_,_,_,hf,_,_⟩:=M2 ho
    rw [c1 (dt ho.2),Y0q ⟨by omega,ho.2⟩,Option.bind_some,fits_eq hw ho,Option.bind_some]
    cases decide (N0 o w) with
    | false=>rfl
    | true =>
      have b1:Y6 (w:Int) 7 5=some ((w / 128 % 32:Nat):Int):=ibP hw (by decide) (by decide) (by decide) (by decide)
      have b2:Y6 (w:Int) 15 5=some ((w / 32768 % 32:Nat):Int):=ibP hw (by decide) (by decide) (by decide) (by decide)
      have b3:Y6 (w:Int) 20 5=some ((w / 1048576 % 32:Nat):Int):=ibP hw (by decide) (by decide) (by decide) (by decide)
      have i1:IntKind.wrap .i64 ((w / 128 % 32:Nat):Int)=((w / 128 % 32:Nat):Int):=w64 (by omega)
      have i2:IntKind.wrap .i64 ((w / 32768 % 32:Nat):Int)=((w / 32768 % 32:Nat):Int):=w64 (by omega)
      have i3:IntKind.wrap .i64 ((w / 1048576 % 32:Nat):Int)=((w / 1048576 % 32:Nat):Int):=w64 (by omega)
      rw [Bool.not_true,cond_false,Z0u ⟨by omega,ho.2⟩,told_eq hw,Option.bind_some,needs_eq o hf,Option.bind_some,b1,b2,b3]
      unfold J5
      clear b1 b2 b3
      generalize ((w / 128 % 32:Nat):Int)=x at *
      generalize ((w / 32768 % 32:Nat):Int)=y at *
      generalize ((w / 1048576 % 32:Nat):Int)=z at *
      cases hasD (Z2 o) <;> cases has1 (Z2 o) <;> cases has2 (Z2 o) <;> simp only [jn,cond_true,cond_false,Option.bind_some,i1,i2,i3]
  · rfl
theorem Z1m {w:Nat} (hw:w < 4294967296):E0 (w:Int)=some (Q2e w):=by
  unfold E0
  rw [show IntKind.wrap .i64 (w:Int)=(w:Int) from w64 (by omega)]
  refine Z8o (fun o ho => ?_) ?_ rfl (fun _=>rfl)
  · obtain⟨_,_,_,hf,_,_⟩:=M2 ho
    have m1:Y0 (w:Int) 7 11 0=some ((w / 128 % 32 * 1:Nat):Int):=mvP hw (.inr ⟨by omega,rfl⟩) (by decide) (by decide) (by decide) (by decide) (by decide)
    have m2:Y0 (w:Int) 15 19 0=some ((w / 32768 % 32 * 1:Nat):Int):=mvP hw (.inr ⟨by omega,rfl⟩) (by decide) (by decide) (by decide) (by decide) (by decide)
    have m3:Y0 (w:Int) 20 24 0=some ((w / 1048576 % 32 * 1:Nat):Int):=mvP hw (.inr ⟨by omega,rfl⟩) (by decide) (by decide) (by decide) (by decide) (by decide)
    rw [Nat.mul_one] at m1 m2 m3
    obtain⟨v,hv,hq⟩:=Word_dec hw ho
    have hR:N9 (J5 o w)=some true:=by
      rw [Y2f,Y2w hf]
    have fin:((N9 (J5 o w)).bind fun y9=>bif y9 then ((J7 (J5 o w)).bind fun y10=>bif y10 == (w:Int) then (some (Lp.ret (J5 o w,(0:Int)))) else (some (Lp.go (IntKind.wrap .i64 (o+1))))) else (some (Lp.go (IntKind.wrap .i64 (o+1)))):Option (Lp Int (V4×Int)))=some (bif decide (N0 o w) then .ret (J5 o w,0) else .go (IntKind.wrap .i64 (o+1))):=by
      rw [hR,Option.bind_some,cond_true,hv,Option.bind_some,beqn]
      by_cases hF:N0 o w
      · rw [dt hF,dt (hq.2 hF)]; rfl
      · rw [df hF,df (fun e=>hF (hq.1 e))]; rfl
    rw [← fin,c1 (dt ho.2),Z1l,Option.bind_some,Y3g hw,Option.bind_some,rhas1,rhas2,rhas3,m1,m2,m3]
    clear m1 m2 m3 fin hv hq
    unfold J5
    generalize ((w / 128 % 32:Nat):Int)=x at *
    generalize ((w / 32768 % 32:Nat):Int)=y at *
    generalize ((w / 1048576 % 32:Nat):Int)=z at *
    cases hasD (Z2 o) <;> cases has1 (Z2 o) <;> cases has2 (Z2 o) <;> simp only [jn,cond_true,cond_false,Option.bind_some]
  · rfl
abbrev Wd (a:Int):Prop:=0≤a∧a < 4294967296
def sgn (a:Int):Int:=if 2147483648≤a then a - 4294967296 else a
theorem Q5w {a:Int} (h:Wd a) : -2147483648≤sgn a∧sgn a < 2147483648:=by unfold sgn; split <;> omega
theorem D5 (n:Int):IntKind.wrap .u32 n=n % 4294967296:=by
  simp only [IntKind.wrap,IntKind.signed,IntKind.bits]
  simp
theorem Z4h {a:Int} (h:Wd a):IntKind.wrap .i32 a=sgn a:=by
  simp only [IntKind.wrap,IntKind.signed,IntKind.bits]
  unfold sgn
  have:a % 4294967296=a:=by omega
  simp [this]
theorem G3 {a:Int} (h:Wd a):V7 a=some (sgn a):=by
  unfold V7 sgn
  rw [w64 (x:=a) (by omega),w64 (by omega)]
  by_cases hh:2147483648≤a <;> simp [hh]
theorem tmodW (n:Int):Int.tmod n 4294967296=if 0≤n then n % 4294967296 else -((-n) % 4294967296):=by
  split
  · rename_i h; exact Int.tmod_eq_emod_of_nonneg h
  · rename_i h
    have:n = -(-n):=by omega
    rw [this,Int.neg_tmod,Int.tmod_eq_emod_of_nonneg (by omega)]
    simp
theorem P2 {n:Int} (h : -9223372036854775808≤n∧n < 9223372036854775808):J2 n=some (n % 4294967296):=by
  unfold J2 jn
  simp only [tmodW,D5]
  split
  · rename_i hn
    rw [df (by omega),cond_false]
    congr 1; omega
  · rename_i hn
    by_cases hz:(-n) % 4294967296=0
    · rw [df (by omega),cond_false]
      congr 1; omega
    · rw [dt (by omega),cond_true,w64 (by omega)]
      congr 1; omega
theorem Add_eq {a b:Int} (ha:Wd a) (hb:Wd b):Q0s a b=some ((a+b) % 4294967296):=by
  unfold Q0s
  rw [w64 (x:=a) (by omega),w64 (x:=b) (by omega),w64 (by omega),P2 (by omega)]
  rfl
theorem Y0m {a b:Int} (ha:Wd a) (hb:Wd b):I1 a b=some ((a - b) % 4294967296):=by
  unfold I1
  rw [w64 (x:=a) (by omega),w64 (x:=b) (by omega),w64 (by omega),P2 (by omega)]
  rfl
theorem Q4p {x y m:Int} (hx:0≤x∧x≤m) (hy:0≤y∧y≤m):0≤x * y∧x * y≤m * m:=⟨Int.mul_nonneg hx.1 hy.1,Int.mul_le_mul hx.2 hy.2 hy.1 (by omega)⟩
theorem Mul_eq {a b:Int} (ha:Wd a) (hb:Wd b):Q0r a b=some ((a * b) % 4294967296):=by
  unfold Q0r A4
  simp only [Option.bind_some]
  rw [w64 (x:=a) (by omega),w64 (x:=b) (by omega),Int.tmod_eq_emod_of_nonneg ha.1,Int.tmod_eq_emod_of_nonneg hb.1,Int.tdiv_eq_ediv_of_nonneg ha.1,Int.tdiv_eq_ediv_of_nonneg hb.1,w64 (x:=a / 65536) (by omega),w64 (x:=b / 65536) (by omega)]
  obtain⟨al,hal⟩ : ∃ x,x=a % 65536:=⟨_,rfl⟩
  obtain⟨ah,hah⟩ : ∃ x,x=a / 65536:=⟨_,rfl⟩
  obtain⟨bl,hbl⟩ : ∃ x,x=b % 65536:=⟨_,rfl⟩
  obtain⟨bh,hbh⟩ : ∃ x,x=b / 65536:=⟨_,rfl⟩
  have hab:a * b=4294967296 * (ah * bh)+65536 * (ah * bl+al * bh)+al * bl:=by
    have e1:a=65536 * ah+al:=by omega
    have e2:b=65536 * bh+bl:=by omega
    rw [e1,e2]
    simp only [Int.add_mul,Int.mul_add]
    have:(65536 * ah) * (65536 * bh)=4294967296 * (ah * bh):=by rw [Int.mul_assoc,← Int.mul_assoc ah,Int.mul_comm ah 65536,Int.mul_assoc 65536 ah,← Int.mul_assoc]; rfl
    have e3:65536 * ah * bl=65536 * (ah * bl):=Int.mul_assoc _ _ _
    have e4:al * (65536 * bh)=65536 * (al * bh):=by rw [← Int.mul_assoc,Int.mul_comm al 65536,Int.mul_assoc]
    rw [this,e3,e4]
    omega
  rw [hab,← hal,← hah,← hbl,← hbh]
  have b1:=Q4p (x:=al) (y:=bl) (m:=65535) (by omega) (by omega)
  have b2:=Q4p (x:=ah) (y:=bl) (m:=65535) (by omega) (by omega)
  have b3:=Q4p (x:=al) (y:=bh) (m:=65535) (by omega) (by omega)
  clear hab hal hah hbl hbh
  generalize al * bl=p at *
  generalize ah * bl=q at *
  generalize al * bh=r at *
  generalize ah * bh=t at *
  rw [w64 (x:=p) (by omega),w64 (x:=q) (by omega),w64 (x:=r) (by omega),Int.tdiv_eq_ediv_of_nonneg b1.1,w64 (x:=p / 65536) (by omega),w64 (x:=q+p / 65536) (by omega),Int.tmod_eq_emod_of_nonneg (a:=q+p / 65536) (by omega),w64 (x:=r+(q+p / 65536) % 65536) (by omega),Int.tmod_eq_emod_of_nonneg (a:=r+(q+p / 65536) % 65536) (by omega),Int.tmod_eq_emod_of_nonneg b1.1,w64 (x:=(r+(q+p / 65536) % 65536) % 65536 * 65536) (by omega),w64 (by omega),D5]
  congr 1
  omega
theorem Z7c {x:Int} (h : -2147483648≤x∧x < 2147483648):H9 x=some (if x < 0 then -x else x):=by
  unfold H9
  rw [w64 (by omega)]
  by_cases hh:x < 0 <;> simp [hh]
theorem Z0t {x y:Int} (hy:y ≠ 0):Int.tdiv x y=if (x < 0∧0 < y) ∨ (0 < x∧y < 0) then -(Int.tdiv (if x < 0 then -x else x) (if y < 0 then -y else y)) else Int.tdiv (if x < 0 then -x else x) (if y < 0 then -y else y):=by
  by_cases h1:x < 0 <;> by_cases h2:y < 0
  · rw [if_neg (by omega),if_pos h1,if_pos h2]; simp
  · rw [if_pos (by omega),if_pos h1,if_neg h2]; simp
  · by_cases h3:0 < x
    · rw [if_pos (by omega),if_neg h1,if_pos h2]; simp
    · have:x=0:=by omega
      subst this
      simp
  · rw [if_neg (by omega),if_neg h1,if_neg h2]
theorem Z5r {x y:Int} (hx : -2147483648≤x∧x < 2147483648) (hy:y ≠ 0):0≤Int.tdiv (if x < 0 then -x else x) (if y < 0 then -y else y)∧Int.tdiv (if x < 0 then -x else x) (if y < 0 then -y else y)≤2147483648:=by
  have hx' : 0≤(if x < 0 then -x else x)∧(if x < 0 then -x else x)≤2147483648:=by split <;> omega
  have hy' : 0 < (if y < 0 then -y else y):=by split <;> omega
  generalize (if x < 0 then -x else x)=u at *
  generalize (if y < 0 then -y else y)=v at *
  rw [Int.tdiv_eq_ediv_of_nonneg hx'.1]
  exact⟨Int.ediv_nonneg hx'.1 (by omega),Int.le_trans (Int.ediv_le_self _ hx'.1) hx'.2⟩
theorem Div_ref {a b:Int} (ha:Wd a) (hb:Wd b) (h0:b ≠ 0):S0 a b=some (Int.tdiv (sgn a) (sgn b) % 4294967296):=by
  have hx:=Q5w ha
  have hy:=Q5w hb
  have hy0:sgn b ≠ 0:=by unfold sgn; split <;> omega
  unfold S0
  rw [G3 ha,G3 hb]
  simp only [Option.bind_some]
  rw [show (sgn b == 0)=false by simpa using hy0,cond_false,Z7c hx,Z7c hy]
  simp only [Option.bind_some]
  rw [show nz (if sgn b < 0 then -sgn b else sgn b)=some () by unfold nz; rw [if_neg (by split <;> omega)]]
  simp only [Option.bind_some,jn]
  have hbd:=Z5r hx hy0
  rw [Z0t (x:=sgn a) hy0]
  generalize Int.tdiv (if sgn a < 0 then -sgn a else sgn a) (if sgn b < 0 then -sgn b else sgn b)=q at *
  rw [w64 (x:=q) (by omega),w64 (x:=0 - q) (by omega),P2 (n:=q) (by omega),P2 (n:=0 - q) (by omega)]
  simp only [Option.bind_some]
  have e:0 - q = -q:=by omega
  rw [e]
  by_cases h1:sgn a < 0
  · have h1' : ¬ 0 < sgn a:=by omega
    by_cases h2:0 < sgn b <;> simp [h1,h1',h2]
  · by_cases h2:0 < sgn a
    · by_cases h3:sgn b < 0 <;> simp [h1,h2,h3]
    · simp [h1,h2]
theorem Rem_ref {a b:Int} (ha:Wd a) (hb:Wd b) (h0:b ≠ 0):R7 a b=some (Int.tmod (sgn a) (sgn b) % 4294967296):=by
  have hx:=Q5w ha
  have hy:=Q5w hb
  have hy0:sgn b ≠ 0:=by unfold sgn; split <;> omega
  unfold R7
  rw [G3 ha,G3 hb]
  simp only [Option.bind_some]
  rw [show (sgn b == 0)=false by simpa using hy0,cond_false,Z7c hx,Z7c hy]
  simp only [Option.bind_some]
  rw [show nz (if sgn b < 0 then -sgn b else sgn b)=some () by unfold nz; rw [if_neg (by split <;> omega)]]
  simp only [Option.bind_some,jn]
  have hm:Int.tmod (sgn a) (sgn b)=if sgn a < 0 then -(Int.tmod (if sgn a < 0 then -sgn a else sgn a) (if sgn b < 0 then -sgn b else sgn b)) else Int.tmod (if sgn a < 0 then -sgn a else sgn a) (if sgn b < 0 then -sgn b else sgn b):=by
    by_cases h1:sgn a < 0 <;> by_cases h2:sgn b < 0 <;> simp [h1,h2]
  have hbd:0≤Int.tmod (if sgn a < 0 then -sgn a else sgn a) (if sgn b < 0 then -sgn b else sgn b)∧Int.tmod (if sgn a < 0 then -sgn a else sgn a) (if sgn b < 0 then -sgn b else sgn b) < 4294967296:=by
    have h1:0≤(if sgn a < 0 then -sgn a else sgn a):=by split <;> omega
    have h2:0 < (if sgn b < 0 then -sgn b else sgn b)∧(if sgn b < 0 then -sgn b else sgn b)≤2147483648:=by split <;> omega
    rw [Int.tmod_eq_emod_of_nonneg h1]
    exact⟨Int.emod_nonneg _ (by omega),Int.lt_trans (Int.emod_lt_of_pos _ h2.1) (by omega)⟩
  rw [hm]
  generalize Int.tmod (if sgn a < 0 then -sgn a else sgn a) (if sgn b < 0 then -sgn b else sgn b)=q at *
  rw [w64 (x:=0 - q) (by omega),P2 (n:=q) (by omega),P2 (n:=0 - q) (by omega)]
  simp only [Option.bind_some]
  have e:0 - q = -q:=by omega
  rw [e]
  by_cases h1:sgn a < 0 <;> simp [h1]
theorem pw_eq {b:Int} (hb:Wd b):B5 b=some ((2:Int) ^ (b.toNat % 32)):=by
  unfold B5
  have hm:Int.tmod b 32=((b.toNat % 32:Nat):Int):=by rw [Int.tmod_eq_emod_of_nonneg hb.1]; omega
  rw [hm,w64 (by omega)]
  generalize hn:b.toNat % 32=n
  have hn32:n < 32:=by omega
  have key : ∀ k,k < 32→(2:Int) ^ k≤2147483648∧0 < (2:Int) ^ k:=by decide
  refine run_bind (fun k=>((2:Int) ^ k,(k:Int))) n (.brk ((2:Int) ^ n,(n:Int))) rfl (by omega) (fun k hk => ?_) ?_ trivial rfl
  · simp only
    obtain⟨h1,h2⟩:=key k (by omega)
    rw [dlt hk,cond_true,w64 (by omega),w64 (by omega)]
    rw [show (2:Int) * 2 ^ k=2 ^ (k+1) by rw [Int.pow_succ,Int.mul_comm]]
    rfl
  · simp only
    rw [dge n,cond_false]
theorem bvW {a:Nat} (h:a < 4294967296):(BitVec.ofInt 32 (a:Int)).toNat=a:=by
  rw [BitVec.ofInt_natCast,BitVec.toNat_ofNat]; exact Nat.mod_eq_of_lt h
theorem and31 {b:Int} (hb:Wd b):bits .and .u32 b 31=((b.toNat % 32:Nat):Int):=by
  obtain⟨m,rfl⟩ : ∃ m:Nat,b=m:=⟨b.toNat,by omega⟩
  show IntKind.u32.wrap ((BitVec.ofInt 32 (m:Int) &&& BitVec.ofInt 32 ((31:Nat):Int)).toNat:Int)=_
  rw [BitVec.toNat_and,bvW (by omega),bvW (by omega),show (31:Nat)=2 ^ 5 - 1 from rfl,Nat.and_two_pow_sub_one_eq_mod,w32u (by omega)]
  simp
theorem pw_bd : ∀ k,k < 32→(2:Int) ^ k≤2147483648∧0 < (2:Int) ^ k∧4294967296 / (2:Int) ^ k * 2 ^ k=4294967296∧1≤4294967296 / (2:Int) ^ k:=by decide
theorem Left_ref {a b:Int} (ha:Wd a) (hb:Wd b):R8 a b=some (a * 2 ^ (b.toNat % 32) % 4294967296):=by
  unfold R8
  rw [pw_eq hb]
  obtain⟨h1,h2,h3,h4⟩:=pw_bd (b.toNat % 32) (by omega)
  generalize (2:Int) ^ (b.toNat % 32)=p at *
  simp only [Option.bind_some]
  have hq:4294967296 / p≤4294967296:=Int.ediv_le_self _ (by omega)
  rw [show nz p=some () by unfold nz; rw [if_neg (by omega)],Int.tdiv_eq_ediv_of_nonneg (by omega),w64 (x:=4294967296 / p) (by omega),show nz (4294967296 / p)=some () by unfold nz; rw [if_neg (by omega)]]
  simp only [Option.bind_some]
  rw [w64 (x:=a) (by omega),Int.tmod_eq_emod_of_nonneg ha.1]
  have hmul:a % (4294967296 / p) * p=a * p % 4294967296:=by
    have:=Int.mul_emod_mul_of_pos a (4294967296 / p) h2
    rw [Int.mul_comm p a,Int.mul_comm p (4294967296 / p),h3,Int.mul_comm p] at this
    exact this.symm
  rw [hmul,w64 (by omega),P2 (by omega)]
  simp
theorem fl_eq {x p:Int} (hp:0 < p):x / p=if x < 0 then (if Int.tdiv x p * p ≠ x then Int.tdiv x p - 1 else Int.tdiv x p) else Int.tdiv x p:=by
  by_cases hx:x < 0
  · rw [if_pos hx]
    have e:x = -(-x):=by omega
    have ht:Int.tdiv x p = -((-x) / p):=by rw [e,Int.neg_tdiv,Int.tdiv_eq_ediv_of_nonneg (by omega)]; simp
    rw [ht]
    have hd:=Int.mul_ediv_add_emod (-x) p
    have hr:=Int.emod_nonneg (-x) (show p ≠ 0 by omega)
    have hl:=Int.emod_lt_of_pos (-x) hp
    generalize (-x) / p=k at *
    generalize (-x) % p=r at *
    have hkp : -k * p = -(p * k):=by rw [Int.neg_mul,Int.mul_comm]
    by_cases h0 : -k * p=x
    · rw [if_neg (by simpa using h0)]
      refine((Int.ediv_emod_unique hp (r:=0)).2 ⟨?_,by omega,hp⟩).1
      rw [Int.mul_comm]; omega
    · rw [if_pos h0]
      refine((Int.ediv_emod_unique hp (r:=p - r)).2 ⟨?_,by omega,by omega⟩).1
      rw [Int.mul_sub,Int.mul_comm p (-k)]; omega
  · rw [if_neg hx,Int.tdiv_eq_ediv_of_nonneg (by omega)]
theorem Y0n {a b:Int} (ha:Wd a) (hb:Wd b):C0 a b=some ((sgn a / 2 ^ (b.toNat % 32)) % 4294967296):=by
  unfold C0
  rw [pw_eq hb,G3 ha]
  obtain⟨h1,h2,_,_⟩:=pw_bd (b.toNat % 32) (by omega)
  generalize (2:Int) ^ (b.toNat % 32)=p at *
  have hx:=Q5w ha
  simp only [Option.bind_some]
  rw [show nz p=some () by unfold nz; rw [if_neg (by omega)]]
  simp only [Option.bind_some,jn]
  have hq : -2147483648≤Int.tdiv (sgn a) p∧Int.tdiv (sgn a) p≤2147483648:=by
    have:=Z5r hx (y:=p) (by omega)
    rw [Z0t (x:=sgn a) (y:=p) (by omega)]
    split <;> omega
  have hqp : -2147483648≤Int.tdiv (sgn a) p * p∧Int.tdiv (sgn a) p * p≤2147483648:=by
    by_cases hs:sgn a < 0
    · have e:sgn a = -(-sgn a):=by omega
      have ht:Int.tdiv (sgn a) p = -((-sgn a) / p):=by rw [e,Int.neg_tdiv,Int.tdiv_eq_ediv_of_nonneg (by omega)]; simp
      have hd:=Int.mul_ediv_add_emod (-sgn a) p
      have hr:=Int.emod_nonneg (-sgn a) (show p ≠ 0 by omega)
      have hl:=Int.emod_lt_of_pos (-sgn a) h2
      have hkk:=Int.mul_nonneg (show 0≤p by omega) (Int.ediv_nonneg (show 0 ≤ -sgn a by omega) (show 0≤p by omega))
      rw [ht,Int.neg_mul,Int.mul_comm]
      omega
    · have hd:=Int.mul_ediv_add_emod (sgn a) p
      have hr:=Int.emod_nonneg (sgn a) (show p ≠ 0 by omega)
      have hl:=Int.emod_lt_of_pos (sgn a) h2
      have hkk:=Int.mul_nonneg (show 0≤p by omega) (Int.ediv_nonneg (show 0≤sgn a by omega) (show 0≤p by omega))
      rw [Int.tdiv_eq_ediv_of_nonneg (by omega),Int.mul_comm]
      omega
  rw [fl_eq (x:=sgn a) h2]
  rw [w64 (x:=Int.tdiv (sgn a) p) (by omega),w64 (x:=Int.tdiv (sgn a) p * p) (by omega),w64 (x:=Int.tdiv (sgn a) p - 1) (by omega),P2 (n:=Int.tdiv (sgn a) p) (by omega),P2 (n:=Int.tdiv (sgn a) p - 1) (by omega)]
  simp only [Option.bind_some]
  by_cases hs:sgn a < 0
  · by_cases hz:Int.tdiv (sgn a) p * p=sgn a
    · simp [hs,hz]
    · rw [show (Int.tdiv (sgn a) p * p != sgn a)=true by simpa using hz]
      simp [hs,hz]
  · simp [hs]
theorem wsig {a:Int} (h:Wd a):IntKind.wrap .i64 (IntKind.wrap .i32 a)=sgn a:=by
  have:=Q5w h
  rw [Z4h h,w64 (by omega)]
theorem wDiv {a b:Int} (ha:Wd a) (hb:Wd b) (h0:b ≠ 0):Q2i a b=some (Int.tdiv (sgn a) (sgn b) % 4294967296):=by
  have hx:=Q5w ha
  have hy0:sgn b ≠ 0:=by unfold sgn; split <;> omega
  have hq : -2147483648≤Int.tdiv (sgn a) (sgn b)∧Int.tdiv (sgn a) (sgn b)≤2147483648:=by
    have:=Z5r hx hy0
    rw [Z0t (x:=sgn a) hy0]
    split <;> omega
  unfold Q2i W0 Q3b
  rw [show (b == 0)=false by simpa using h0,cond_false,wsig ha,wsig hb,show nz (sgn b)=some () by unfold nz; rw [if_neg hy0]]
  simp only [Option.bind_some]
  rw [w64 (by omega),D5]
theorem wRem {a b:Int} (ha:Wd a) (hb:Wd b) (h0:b ≠ 0):Q2g a b=some (Int.tmod (sgn a) (sgn b) % 4294967296):=by
  have hy0:sgn b ≠ 0:=by unfold sgn; split <;> omega
  unfold Q2g S9 Q3a
  rw [show (b == 0)=false by simpa using h0,cond_false,wsig ha,wsig hb,show nz (sgn b)=some () by unfold nz; rw [if_neg hy0]]
  simp only [Option.bind_some]
  rw [D5]
theorem wLeft {a b:Int} (ha:Wd a) (hb:Wd b):Q0p a b=some (a * 2 ^ (b.toNat % 32) % 4294967296):=by
  unfold Q0p nn
  rw [and31 hb,if_pos (by omega)]
  simp only [Option.bind_some,Int.toNat_natCast]
  rw [show min (b.toNat % 32) (IntKind.bits .u32)=b.toNat % 32 from Nat.min_eq_left (by show _≤32; omega),D5]
theorem wRightS {a b:Int} (ha:Wd a) (hb:Wd b):A8 a b=some ((sgn a / 2 ^ (b.toNat % 32)) % 4294967296):=by
  unfold A8 nn
  rw [and31 hb,if_pos (by omega)]
  simp only [Option.bind_some,Int.toNat_natCast]
  obtain⟨h1,h2,_,_⟩:=pw_bd (b.toNat % 32) (by omega)
  rw [show min (b.toNat % 32) (IntKind.bits .i32)=b.toNat % 32 from Nat.min_eq_left (by show _≤32; omega),D5,Z4h ha,Int.fdiv_eq_ediv_of_nonneg _ (by omega)]
def b2 (b:Bool):Int:=bif b then 1 else 0
theorem wLess {a b:Int} (ha:Wd a) (hb:Wd b):A9 a b=some (b2 (decide (sgn a < sgn b))):=by
  unfold A9 Q0w
  rw [Z4h ha,Z4h hb]
  by_cases h:sgn a < sgn b <;> simp [h,b2]
theorem wm (x:Int):Wd (x % 4294967296):=⟨Int.emod_nonneg _ (by omega),Int.emod_lt_of_pos _ (by omega)⟩
theorem Z6e {a b:Int} (ha:Wd a) (hb:Wd b):0≤a * b∧a * b≤18446744065119617025:=Q4p (m:=4294967295) (by omega) (by omega)
theorem half_eq {a b:Int} (ha:Wd a) (hb:Wd b):A4 a b=some (a * b / 4294967296,a * b % 4294967296):=by
  unfold A4
  have hm:=Z6e ha hb
  rw [w64 (x:=a) (by omega),w64 (x:=b) (by omega),Int.tmod_eq_emod_of_nonneg ha.1,Int.tmod_eq_emod_of_nonneg hb.1,Int.tdiv_eq_ediv_of_nonneg ha.1,Int.tdiv_eq_ediv_of_nonneg hb.1,w64 (x:=a / 65536) (by omega),w64 (x:=b / 65536) (by omega)]
  obtain⟨al,hal⟩ : ∃ x,x=a % 65536:=⟨_,rfl⟩
  obtain⟨ah,hah⟩ : ∃ x,x=a / 65536:=⟨_,rfl⟩
  obtain⟨bl,hbl⟩ : ∃ x,x=b % 65536:=⟨_,rfl⟩
  obtain⟨bh,hbh⟩ : ∃ x,x=b / 65536:=⟨_,rfl⟩
  have hab:a * b=4294967296 * (ah * bh)+65536 * (ah * bl+al * bh)+al * bl:=by
    have e1:a=65536 * ah+al:=by omega
    have e2:b=65536 * bh+bl:=by omega
    rw [e1,e2]
    simp only [Int.add_mul,Int.mul_add]
    have:(65536 * ah) * (65536 * bh)=4294967296 * (ah * bh):=by rw [Int.mul_assoc,← Int.mul_assoc ah,Int.mul_comm ah 65536,Int.mul_assoc 65536 ah,← Int.mul_assoc]; rfl
    have e3:65536 * ah * bl=65536 * (ah * bl):=Int.mul_assoc _ _ _
    have e4:al * (65536 * bh)=65536 * (al * bh):=by rw [← Int.mul_assoc,Int.mul_comm al 65536,Int.mul_assoc]
    rw [this,e3,e4]
    omega
  rw [hab] at hm ⊢
  rw [← hal,← hah,← hbl,← hbh]
  have b1:=Q4p (x:=al) (y:=bl) (m:=65535) (by omega) (by omega)
  have b2:=Q4p (x:=ah) (y:=bl) (m:=65535) (by omega) (by omega)
  have b3:=Q4p (x:=al) (y:=bh) (m:=65535) (by omega) (by omega)
  have b4:=Q4p (x:=ah) (y:=bh) (m:=65535) (by omega) (by omega)
  clear hab hal hah hbl hbh
  generalize al * bl=p at *
  generalize ah * bl=q at *
  generalize al * bh=r at *
  generalize ah * bh=t at *
  rw [w64 (x:=p) (by omega),w64 (x:=q) (by omega),w64 (x:=r) (by omega),w64 (x:=t) (by omega),Int.tdiv_eq_ediv_of_nonneg b1.1,w64 (x:=p / 65536) (by omega),w64 (x:=q+p / 65536) (by omega),Int.tmod_eq_emod_of_nonneg (a:=q+p / 65536) (by omega),Int.tdiv_eq_ediv_of_nonneg (a:=q+p / 65536) (by omega),w64 (x:=(q+p / 65536) / 65536) (by omega),w64 (x:=t+(q+p / 65536) / 65536) (by omega),w64 (x:=r+(q+p / 65536) % 65536) (by omega),Int.tdiv_eq_ediv_of_nonneg (a:=r+(q+p / 65536) % 65536) (by omega),w64 (x:=(r+(q+p / 65536) % 65536) / 65536) (by omega),Int.tmod_eq_emod_of_nonneg (a:=r+(q+p / 65536) % 65536) (by omega),Int.tmod_eq_emod_of_nonneg b1.1,w64 (x:=(r+(q+p / 65536) % 65536) % 65536 * 65536) (by omega)]
  obtain⟨mid,hmid⟩ : ∃ x,x=q+p / 65536:=⟨_,rfl⟩
  rw [← hmid]
  obtain⟨more,hmore⟩ : ∃ x,x=r+mid % 65536:=⟨_,rfl⟩
  rw [← hmore,w64 (x:=t+mid / 65536+more / 65536) (by omega),w64 (x:=more % 65536 * 65536+p % 65536) (by omega),D5,D5]
  have e1:(4294967296 * t+65536 * (q+r)+p) / 4294967296=t+mid / 65536+more / 65536:=by omega
  have e2:(4294967296 * t+65536 * (q+r)+p) % 4294967296=more % 65536 * 65536+p % 65536:=by omega
  rw [e1,e2]
  have h3:0≤t+mid / 65536+more / 65536∧t+mid / 65536+more / 65536 < 4294967296:=by omega
  rw [Int.emod_eq_of_lt h3.1 h3.2,Int.emod_eq_of_lt (by omega) (by omega)]
theorem Z5j {a b:Int} (ha:Wd a) (hb:Wd b):M1 a b=some (a * b / 4294967296):=by
  unfold M1
  rw [half_eq ha hb]
  rfl
theorem wu64 (n:Int):IntKind.wrap .u64 n=n % 18446744073709551616:=by
  simp only [IntKind.wrap,IntKind.signed,IntKind.bits]
  simp
theorem fd32 (n:Int):Int.fdiv n (2 ^ (min (Int.toNat 32) (IntKind.bits .u64)))=n / 4294967296:=by
  rw [show (2:Int) ^ (min (Int.toNat 32) (IntKind.bits .u64))=4294967296 from rfl,Int.fdiv_eq_ediv_of_nonneg _ (by decide)]
theorem wHighU {a b:Int} (ha:Wd a) (hb:Wd b):O5 a b=some (a * b / 4294967296):=by
  have hm:=Z6e ha hb
  unfold O5
  rw [fd32,wu64,wu64,wu64,D5,Int.emod_eq_of_lt (a:=a) (by omega) (by omega),Int.emod_eq_of_lt (a:=b) (by omega) (by omega),Int.emod_eq_of_lt (a:=a * b) (by omega) (by omega),Int.emod_eq_of_lt (by omega) (by omega)]
theorem Z4n {a:Int} (h:Wd a):(sgn a=a∧a < 2147483648) ∨ (sgn a=a - 4294967296∧2147483648≤a):=by unfold sgn; split <;> omega
theorem Z3m {a b:Int} (ha:Wd a) (hb:Wd b):B9 a b=some (sgn a * b / 4294967296 % 4294967296):=by
  have hm:=Z6e ha hb
  unfold B9
  rw [Z5j ha hb,Option.bind_some,G3 ha,Option.bind_some]
  rcases Z4n ha with ⟨e,h⟩ | ⟨e,h⟩
  · rw [e,df (by omega),cond_false,Int.emod_eq_of_lt (by omega) (by omega)]
  · rw [e,dt (by omega),cond_true,Y0m (by omega) hb,Option.bind_some,Int.sub_mul]
    congr 1
    generalize a * b=z at hm
    omega
theorem sg_rg {a b:Int} (ha:Wd a) (hb:Wd b) : -9223372036854775808≤sgn a * b∧sgn a * b < 9223372036854775808:=by
  rcases Z4n ha with ⟨e,h⟩ | ⟨e,h⟩
  · rw [e]
    have:a * b≤2147483647 * 4294967295:=Int.mul_le_mul (by omega) (by omega) hb.1 (by omega)
    have:=Int.mul_nonneg ha.1 hb.1
    omega
  · rw [e]
    have e2:(a - 4294967296) * b = -((4294967296 - a) * b):=by rw [← Int.neg_mul]; congr 1; omega
    rw [e2]
    have:(4294967296 - a) * b≤2147483648 * 4294967295:=Int.mul_le_mul (by omega) (by omega) hb.1 (by omega)
    have:=Int.mul_nonneg (a:=4294967296 - a) (by omega) hb.1
    omega
theorem wHighSU {a b:Int} (ha:Wd a) (hb:Wd b):H0 a b=some (sgn a * b / 4294967296 % 4294967296):=by
  have hr:=sg_rg ha hb
  unfold H0
  rw [wsig ha,w64 (x:=b) (by omega),w64 (x:=sgn a * b) (by omega),fd32,wu64,D5]
  congr 1
  generalize sgn a * b=z at hr
  omega
theorem High_ref {a b:Int} (ha:Wd a) (hb:Wd b):R9 a b=some (sgn a * sgn b / 4294967296 % 4294967296):=by
  unfold R9
  rw [Z3m ha hb,Option.bind_some,G3 hb,Option.bind_some]
  have hr:=sg_rg ha hb
  rcases Z4n hb with ⟨e,h⟩ | ⟨e,h⟩
  · rw [e,df (by omega),cond_false]
  · rw [e,dt (by omega),cond_true,Y0m (wm _) ha,Option.bind_some,Int.mul_sub]
    congr 1
    generalize sgn a * b=z at hr
    rcases Z4n ha with ⟨e,h⟩ | ⟨e,h⟩ <;> rw [e] <;> omega
theorem ss_rg {a b:Int} (ha:Wd a) (hb:Wd b) : -9223372036854775808≤sgn a * sgn b∧sgn a * sgn b < 9223372036854775808:=by
  have hr:=sg_rg ha hb
  rcases Z4n hb with ⟨e,h⟩ | ⟨e,h⟩
  · rw [e]; exact hr
  · rcases Z4n ha with ⟨f,k⟩ | ⟨f,k⟩
    · rw [e,f,Int.mul_comm]
      have:=sg_rg hb ha
      rw [e] at this
      exact this
    · rw [e,f]
      have e2:(a - 4294967296) * (b - 4294967296)=(4294967296 - a) * (4294967296 - b):=by rw [← Int.neg_mul_neg]; congr 1 <;> omega
      rw [e2]
      have:(4294967296 - a) * (4294967296 - b)≤2147483648 * 2147483648:=Int.mul_le_mul (by omega) (by omega) (by omega) (by omega)
      have:=Int.mul_nonneg (a:=4294967296 - a) (b:=4294967296 - b) (by omega) (by omega)
      omega
theorem wHigh {a b:Int} (ha:Wd a) (hb:Wd b):Q0q a b=some (sgn a * sgn b / 4294967296 % 4294967296):=by
  have hr:=ss_rg ha hb
  unfold Q0q Q1p Q1q
  simp only [Option.bind_some]
  rw [wsig ha,wsig hb,w64 (x:=sgn a * sgn b) (by omega),fd32,wu64,D5]
  congr 1
  generalize sgn a * sgn b=z at hr
  omega
def Pr (x y:Option Int):Prop := ∃ v,x=some v∧y=some v∧Wd v
theorem Pr.bd {x y:Option Int} (h:Pr x y):Pr (x.bind fun v=>some v) (y.bind fun v=>some v):=by
  obtain⟨v,rfl,rfl,hv⟩:=h
  exact⟨v,rfl,rfl,hv⟩
theorem wbits (op:BinOp) (x y:Int) (hop:op = .and ∨ op = .or ∨ op = .xor):Wd (bits op .u32 x y):=by
  have : ∃ n:Int,bits op .u32 x y=IntKind.wrap .u32 n:=by rcases hop with rfl | rfl | rfl <;> exact⟨_,rfl⟩
  obtain⟨n,hn⟩:=this
  rw [hn,D5]
  exact wm n
section
variable {a b:Int}
theorem pAdd (ha:Wd a) (hb:Wd b):Pr (Q4c a b) (Q0s a b):=⟨_,by unfold Q4c; rw [D5],Add_eq ha hb,wm _⟩
theorem pSub (ha:Wd a) (hb:Wd b):Pr (Q4a a b) (I1 a b):=⟨_,by unfold Q4a; rw [D5],Y0m ha hb,wm _⟩
theorem pMul (ha:Wd a) (hb:Wd b):Pr (Q4b a b) (Q0r a b):=⟨_,by unfold Q4b; rw [D5],Mul_eq ha hb,wm _⟩
theorem pHigh (ha:Wd a) (hb:Wd b):Pr (Q0q a b) (R9 a b):=⟨_,wHigh ha hb,High_ref ha hb,wm _⟩
theorem pHighSU (ha:Wd a) (hb:Wd b):Pr (H0 a b) (B9 a b):=⟨_,wHighSU ha hb,Z3m ha hb,wm _⟩
theorem pHighU (ha:Wd a) (hb:Wd b):Pr (O5 a b) (M1 a b):=⟨_,wHighU ha hb,Z5j ha hb,by have:=Z6e ha hb; generalize a * b=z at this ⊢; omega⟩
theorem pDiv (ha:Wd a) (hb:Wd b):Pr (Q2i a b) (S0 a b):=by
  by_cases h0:b=0
  · subst h0
    refine⟨4294967295,rfl,?_,by omega⟩
    unfold S0; rw [G3 ha,G3 hb]; rfl
  · exact⟨_,wDiv ha hb h0,Div_ref ha hb h0,wm _⟩
theorem pRem (ha:Wd a) (hb:Wd b):Pr (Q2g a b) (R7 a b):=by
  by_cases h0:b=0
  · subst h0
    refine⟨a,rfl,?_,ha⟩
    unfold R7; rw [G3 ha,G3 hb]; rfl
  · exact⟨_,wRem ha hb h0,Rem_ref ha hb h0,wm _⟩
theorem Z1z {z:Int} (h:z ≠ 0):nz z=some ():=by unfold nz; rw [if_neg h]
theorem pDivU (ha:Wd a) (hb:Wd b):Pr (Q2h a b) (Q1f a b):=by
  by_cases h0:b=0
  · subst h0
    exact⟨4294967295,rfl,rfl,by omega⟩
  · have hd:0≤a / b∧a / b≤a:=⟨Int.ediv_nonneg ha.1 hb.1,Int.ediv_le_self _ ha.1⟩
    refine⟨a / b,?_,?_,by omega⟩
    · unfold Q2h
      rw [c0 (by simpa using h0),Z1z h0,Option.bind_some,Int.tdiv_eq_ediv_of_nonneg ha.1,D5,Int.emod_eq_of_lt hd.1 (by omega)]
    · unfold Q1f
      rw [c0 (by simpa using h0),w64 (x:=b) (by omega),w64 (x:=a) (by omega),Z1z h0,Option.bind_some,Int.tdiv_eq_ediv_of_nonneg ha.1,w64 (by omega),D5,Int.emod_eq_of_lt hd.1 (by omega)]
theorem pRemU (ha:Wd a) (hb:Wd b):Pr (Q2f a b) (Q1d a b):=by
  by_cases h0:b=0
  · subst h0
    exact⟨a,rfl,rfl,ha⟩
  · have hd:0≤a % b∧a % b < b:=⟨Int.emod_nonneg _ h0,Int.emod_lt_of_pos _ (by omega)⟩
    refine⟨a % b,?_,?_,by omega⟩
    · unfold Q2f
      rw [c0 (by simpa using h0),Z1z h0,Option.bind_some,Int.tmod_eq_emod_of_nonneg ha.1]
    · unfold Q1d
      rw [c0 (by simpa using h0),w64 (x:=b) (by omega),w64 (x:=a) (by omega),Z1z h0,Option.bind_some,Int.tmod_eq_emod_of_nonneg ha.1,D5,Int.emod_eq_of_lt hd.1 (by omega)]
theorem pLeft (ha:Wd a) (hb:Wd b):Pr (Q0p a b) (R8 a b):=⟨_,wLeft ha hb,Left_ref ha hb,wm _⟩
theorem Y0t (ha:Wd a) (hb:Wd b):Pr (A8 a b) (C0 a b):=⟨_,wRightS ha hb,Y0n ha hb,wm _⟩
theorem pRight (ha:Wd a) (hb:Wd b):Pr (Q0x a b) (Q0c a b):=by
  obtain⟨h1,h2,_⟩:=pw_bd (b.toNat % 32) (by omega)
  have hd:0≤a / 2 ^ (b.toNat % 32)∧a / 2 ^ (b.toNat % 32)≤a:=⟨Int.ediv_nonneg ha.1 (by omega),Int.ediv_le_self _ ha.1⟩
  refine⟨a / 2 ^ (b.toNat % 32),?_,?_,by omega⟩
  · unfold Q0x
    rw [and31 hb]
    have hn:nn ((b.toNat % 32:Nat):Int)=some ():=by unfold nn; rw [if_pos (by omega)]
    rw [hn,Option.bind_some,show min (Int.toNat ((b.toNat % 32:Nat):Int)) (IntKind.bits .u32)=b.toNat % 32 by simp only [IntKind.bits]; omega,Int.fdiv_eq_ediv_of_nonneg _ (by omega)]
  · unfold Q0c
    rw [pw_eq hb,Option.bind_some,Z1z (by omega),Option.bind_some,w64 (x:=a) (by omega),Int.tdiv_eq_ediv_of_nonneg ha.1,w64 (by omega),D5,Int.emod_eq_of_lt hd.1 (by omega)]
theorem pLess (ha:Wd a) (hb:Wd b):Pr (A9 a b) (Q1e a b):=by
  refine⟨_,wLess ha hb,?_,?_⟩
  · unfold Q1e
    rw [G3 ha,Option.bind_some,G3 hb,Option.bind_some]
    cases decide (sgn a < sgn b) <;> rfl
  · cases decide (sgn a < sgn b) <;> decide
theorem pLessU (ha:Wd a) (hb:Wd b):Pr (B7 a b) (Q0d a b):=by
  refine⟨b2 (decide (a < b)),?_,?_,?_⟩
  · unfold B7 Q0w
    cases decide (a < b) <;> rfl
  · unfold Q0d
    cases decide (a < b) <;> rfl
  · cases decide (a < b) <;> decide
theorem pXor:Pr (some (bits .xor .u32 a b)) (some (bits .xor .u32 a b)):=⟨_,rfl,rfl,wbits _ _ _ (.inr (.inr rfl))⟩
theorem pOr:Pr (some (bits .or .u32 a b)) (some (bits .or .u32 a b)):=⟨_,rfl,rfl,wbits _ _ _ (.inr (.inl rfl))⟩
theorem pAnd:Pr (some (bits .and .u32 a b)) (some (bits .and .u32 a b)):=⟨_,rfl,rfl,wbits _ _ _ (.inl rfl)⟩
theorem Pr.of {x y x' y' : Option Int} (h:Pr x y) (e:x' = x) (f:y' = y):Pr x' y' := by subst e f; exact h
theorem reck {o:Int} (ho:19≤o∧o≤45) (ha:Wd a) (hb:Wd b):Pr (P4 o a b) (I6 o a b):=by
  have:o=19 ∨ o=20 ∨ o=21 ∨ o=22 ∨ o=23 ∨ o=24 ∨ o=25 ∨ o=26 ∨ o=27 ∨ o=28 ∨ o=29 ∨ o=30 ∨ o=31 ∨ o=32 ∨ o=33 ∨ o=34 ∨ o=35 ∨ o=36 ∨ o=37 ∨ o=38 ∨ o=39 ∨ o=40 ∨ o=41 ∨ o=42 ∨ o=43 ∨ o=44 ∨ o=45:=by omega
  rcases this with rfl | rfl | rfl | rfl | rfl | rfl | rfl | rfl | rfl | rfl | rfl | rfl | rfl | rfl | rfl | rfl | rfl | rfl | rfl | rfl | rfl | rfl | rfl | rfl | rfl | rfl | rfl
  · exact(pAdd ha hb).bd.of (by kernel_rfl) (by kernel_rfl)
  · exact(pLess ha hb).bd.of (by kernel_rfl) (by kernel_rfl)
  · exact(pLessU ha hb).bd.of (by kernel_rfl) (by kernel_rfl)
  · exact(pXor (a:=a) (b:=b)).of (by kernel_rfl) (by kernel_rfl)
  · exact(pOr (a:=a) (b:=b)).of (by kernel_rfl) (by kernel_rfl)
  · exact(pAnd (a:=a) (b:=b)).of (by kernel_rfl) (by kernel_rfl)
  · exact(pLeft ha hb).bd.of (by kernel_rfl) (by kernel_rfl)
  · exact(pRight ha hb).bd.of (by kernel_rfl) (by kernel_rfl)
  · exact(Y0t ha hb).bd.of (by kernel_rfl) (by kernel_rfl)
  · exact(pAdd ha hb).bd.of (by kernel_rfl) (by kernel_rfl)
  · exact(pSub ha hb).bd.of (by kernel_rfl) (by kernel_rfl)
  · exact(pLeft ha hb).bd.of (by kernel_rfl) (by kernel_rfl)
  · exact(pLess ha hb).bd.of (by kernel_rfl) (by kernel_rfl)
  · exact(pLessU ha hb).bd.of (by kernel_rfl) (by kernel_rfl)
  · exact(pXor (a:=a) (b:=b)).of (by kernel_rfl) (by kernel_rfl)
  · exact(pRight ha hb).bd.of (by kernel_rfl) (by kernel_rfl)
  · exact(Y0t ha hb).bd.of (by kernel_rfl) (by kernel_rfl)
  · exact(pOr (a:=a) (b:=b)).of (by kernel_rfl) (by kernel_rfl)
  · exact(pAnd (a:=a) (b:=b)).of (by kernel_rfl) (by kernel_rfl)
  · exact(pMul ha hb).bd.bd.of (by kernel_rfl) (by kernel_rfl)
  · exact(pHigh ha hb).bd.bd.of (by kernel_rfl) (by kernel_rfl)
  · exact(pHighSU ha hb).bd.bd.of (by kernel_rfl) (by kernel_rfl)
  · exact(pHighU ha hb).bd.bd.of (by kernel_rfl) (by kernel_rfl)
  · exact(pDiv ha hb).bd.bd.of (by kernel_rfl) (by kernel_rfl)
  · exact(pDivU ha hb).bd.bd.of (by kernel_rfl) (by kernel_rfl)
  · exact(pRem ha hb).bd.bd.of (by kernel_rfl) (by kernel_rfl)
  · exact(pRemU ha hb).bd.bd.of (by kernel_rfl) (by kernel_rfl)
theorem taken {o:Int} (ho:5≤o∧o≤10) (ha:Wd a) (hb:Wd b) : ∃ t,P5 o a b=some t∧W9 o a b=some t:=by
  unfold W9
  rw [G3 ha,Option.bind_some,G3 hb,Option.bind_some]
  have e1:=wLess ha hb
  have e2:B7 a b=some (b2 (decide (a < b))):=by unfold B7 Q0w; cases decide (a < b) <;> rfl
  have h1:decide (sgn b≤sgn a) = !decide (sgn a < sgn b):=by by_cases h:sgn a < sgn b <;> simp [h] <;> omega
  have h2:decide (b≤a) = !decide (a < b):=by by_cases h:a < b <;> simp [h] <;> omega
  have:o=5 ∨ o=6 ∨ o=7 ∨ o=8 ∨ o=9 ∨ o=10:=by omega
  unfold P5
  rw [e1,e2,h1,h2]
  rcases this with rfl | rfl | rfl | rfl | rfl | rfl
  · exact⟨_,rfl,rfl⟩
  · exact⟨_,rfl,rfl⟩
  · cases decide (sgn a < sgn b) <;> exact⟨_,rfl,rfl⟩
  · cases decide (sgn a < sgn b) <;> exact⟨_,rfl,rfl⟩
  · cases decide (a < b) <;> exact⟨_,rfl,rfl⟩
  · cases decide (a < b) <;> exact⟨_,rfl,rfl⟩
end
theorem Y2x {w:Nat} {o:Int} (h:decO w=some o):(1≤o∧o≤45)∧N0 o w:=by
  unfold decO at h
  cases hf:(List.range 45).findIdx? fun(k:Nat)=>decide (N0 ((k:Int)+1) w) with
  | none=>rw [hf] at h; cases h
  | some k =>
    rw [hf] at h
    obtain rfl:(k:Int)+1=o:=by simpa using h
    obtain⟨hk,hp,_⟩:=List.findIdx?_eq_some_iff_getElem.1 hf
    rw [List.length_range] at hk
    rw [List.getElem_range] at hp
    exact⟨⟨by omega,by omega⟩,of_decide_eq_true hp⟩
theorem immF_rg (f:Int) (w:Nat) : -2147483648≤L0 f w∧L0 f w < 2147483648:=by
  unfold L0
  repeat' split
  all_goals omega
structure IOk (i:V4):Prop where
  op:1≤i.Op∧i.Op≤45
  rd:0≤i.Rd∧i.Rd < 32
  r1:0≤i.Rs1∧i.Rs1 < 32
  r2:0≤i.Rs2∧i.Rs2 < 32
  im : -2147483648≤i.Imm∧i.Imm < 2147483648
theorem Y1s {w:Nat} (h:(Q2e w).2=0):IOk (Q2e w).1:=by
  unfold Q2e at h ⊢
  cases ho:decO w with
  | none=>rw [ho] at h; cases h
  | some o =>
    obtain⟨h1,_⟩:=Y2x ho
    have rg : ∀(b:Bool) (n:Nat),n < 32→0≤(bif b then (n:Int) else 0)∧(bif b then (n:Int) else 0) < 32:=by
      intro b n hn
      cases b <;> simp only [cond_true,cond_false] <;> omega
    exact⟨h1,rg _ _ (Nat.mod_lt _ (by decide)),rg _ _ (Nat.mod_lt _ (by decide)),rg _ _ (Nat.mod_lt _ (by decide)),immF_rg _ _⟩
theorem Z8p (w:Nat):(Q2e w).2=0 ∨ (Q2e w).2=3:=by
  unfold Q2e
  cases decO w with
  | none=>exact .inr rfl
  | some o=>exact .inl rfl
def dm (r:Q0) (t:List Y7):Q1:=⟨⟨r.Regs,r.Pc,r.Seq,r.Index⟩,r.Code,t,r.Data,r.Inputs,r.Log,r.Steps,r.State,r.Exit⟩
structure RW (r:Q0):Prop where
  rl:r.Regs.length=32
  rw : ∀ x ∈ r.Regs,Wd x
  r0:r.Regs[0]? = some 0
  pc:Wd r.Pc
  sq:Wd r.Seq
  ix:Wd r.Index
  cw : ∀ x ∈ r.Code,Wd x
  cl:r.Code.length≤32768
  dw : ∀ x ∈ r.Data,0≤x∧x < 256
  dl:4≤r.Data.length∧r.Data.length≤65536
  iw : ∀ x ∈ r.Inputs,Wd x
  il:r.Inputs.length < 4294967296
  ll:(r.Log.length:Int)≤r.Steps
  st:0≤r.Steps
theorem J9 {α : Type} {l:List α} {n:Nat} (h:l.length=n):J0 l n=some ():=by unfold J0; rw [if_pos h]
theorem nn_ok {z:Int} (h:0≤z):nn z=some ():=by unfold nn; rw [if_pos h]
def bv (f:Nat→Int):Nat→Int
  | 0=>0
  | k+1=>bv f k+f k * 256 ^ k
theorem Z8r {f:Nat→Int} {n:Nat} (hf : ∀ k,k < n→0≤f k∧f k < 256) : ∀ k,k≤n→0≤bv f k∧bv f k < 256 ^ k
  | 0,_=>by simp [bv]
  | k+1,h=>by
    have h1:=Z8r hf k (by omega)
    have h2:=hf k (by omega)
    have h3:(0:Int) < 256 ^ k:=Int.pow_pos (by decide)
    have h4:f k * 256 ^ k≤255 * 256 ^ k:=Int.mul_le_mul_of_nonneg_right (by omega) (by omega)
    have h5:=Int.mul_nonneg h2.1 (Int.le_of_lt h3)
    rw [Int.pow_succ]
    show 0≤bv f k+f k * 256 ^ k∧bv f k+f k * 256 ^ k < 256 ^ k * 256
    omega
theorem orB {k:Nat} (hk:k < 4) {x y:Int} (hx:0≤x∧x < 256 ^ k) (hy:0≤y∧y < 256):bits .or .u32 x (IntKind.wrap .u32 ((IntKind.wrap .u32 y) * 2 ^ (min (Int.toNat (IntKind.wrap .i64 (8 * (k:Int)))) (IntKind.bits .u32))))=x+y * 256 ^ k:=by
  obtain⟨a,rfl⟩ : ∃ a:Nat,x=a:=⟨x.toNat,by omega⟩
  obtain⟨b,rfl⟩ : ∃ b:Nat,y=b:=⟨y.toNat,by omega⟩
  have hb:b < 256:=by omega
  have he:min (Int.toNat (IntKind.wrap .i64 (8 * (k:Int)))) (IntKind.bits .u32)=8 * k:=by
    rw [w64 (by omega)]
    simp only [IntKind.bits]
    omega
  have hp:(2:Nat) ^ (8 * k)=256 ^ k:=by rw [Nat.pow_mul]
  have hpi:((2:Int) ^ (8 * k))=((256 ^ k:Nat):Int):=by rw [← hp]; simp
  have hq:256 ^ k≤16777216:=by
    have:k=0 ∨ k=1 ∨ k=2 ∨ k=3:=by omega
    rcases this with rfl | rfl | rfl | rfl <;> decide
  have ha:a < 256 ^ k:=by
    have:=hx.2
    rw [show ((256:Int) ^ k)=((256 ^ k:Nat):Int) by simp] at this
    omega
  have hm:b * 256 ^ k≤255 * 256 ^ k:=Nat.mul_le_mul_right _ (by omega)
  have hc:((b:Int) * ((256 ^ k:Nat):Int))=((b * 256 ^ k:Nat):Int):=by simp
  rw [he,D5 (b:Int),Int.emod_eq_of_lt (a:=(b:Int)) (by omega) (by omega),hpi,hc,D5,Int.emod_eq_of_lt (by omega) (by omega),Q8x (by omega) (by omega),show ((256:Int) ^ k)=((256 ^ k:Nat):Int) by simp,hc]
  have:=Nat.two_pow_add_eq_or_of_lt (i:=8 * k) (b:=a) (by rw [hp]; exact ha) b
  rw [hp,Nat.mul_comm] at this
  rw [Nat.or_comm,← this]
  omega
def rv (f:Nat→Int) (n:Nat):Nat→Int
  | 0=>0
  | j+1=>256 * rv f n j+f (n - 1 - j)
theorem rv_bv (f:Nat→Int) {n:Nat} (hn:n=1 ∨ n=2 ∨ n=4):rv f n n=bv f n:=by
  rcases hn with rfl | rfl | rfl <;> simp [rv,bv] <;> omega
theorem rv_rg {f:Nat→Int} {n:Nat} (hf : ∀ k,k < n→0≤f k∧f k < 256) : ∀ j,j≤n→0≤rv f n j∧rv f n j < 256 ^ j
  | 0,_=>by simp [rv]
  | j+1,h=>by
    have h1:=rv_rg hf j (by omega)
    have h2:=hf (n - 1 - j) (by omega)
    rw [Int.pow_succ]
    show 0≤256 * rv f n j+f (n - 1 - j)∧256 * rv f n j+f (n - 1 - j) < 256 ^ j * 256
    omega
def szO (o:Int):Int:=if o=11 ∨ o=14 ∨ o=16 then 1 else if o=12 ∨ o=15 ∨ o=17 then 2 else 4
theorem Q3c {o:Int} (ho:11≤o∧o≤18):M4 o=some (szO o)∧Q1b o=some (szO o):=by
  have:o=11 ∨ o=12 ∨ o=13 ∨ o=14 ∨ o=15 ∨ o=16 ∨ o=17 ∨ o=18:=by omega
  rcases this with rfl | rfl | rfl | rfl | rfl | rfl | rfl | rfl <;> exact⟨rfl,rfl⟩
theorem Z9f (o:Int) : ∃ n:Nat,szO o=(n:Int)∧(n=1 ∨ n=2 ∨ n=4):=by
  unfold szO
  split
  · exact⟨1,rfl,.inl rfl⟩
  · split
    · exact⟨2,rfl,.inr (.inl rfl)⟩
    · exact⟨4,rfl,.inr (.inr rfl)⟩
section
variable {r:Q0} {t:List Y7}
def inD (r:Q0) (at_:Int) (n:Nat):Bool:=decide (at_ % n=0)&&decide (268435456≤at_)&&decide (at_+n≤268435456+r.Data.length)
theorem in_eq (h:RW r) {a:Int} (ha:Wd a) {n:Nat} (hn:n=1 ∨ n=2 ∨ n=4):F5 r a (n:Int)=some (inD r a n):=by
  have hd:=h.dl
  unfold F5 inD
  rw [Z1z (by omega),Option.bind_some,w64 (by omega),w64 (by omega),Int.tmod_eq_emod_of_nonneg ha.1]
  rfl
theorem Z1r (h:RW r) {a:Int} (ha:Wd a) {n:Nat} (hn:n=1 ∨ n=2 ∨ n=4):V5 (dm r t) a (n:Int)=some (if inD r a n then (a - 268435456,true) else (0,false)):=by
  have hd:=h.dl
  unfold V5
  by_cases h1:a < 268435456
  · rw [c1 (dt h1),if_neg (by simp [inD]; omega)]
  rw [c0 (df h1)]
  have en:IntKind.wrap .u32 (n:Int)=(n:Int):=by rw [D5,Int.emod_eq_of_lt (by omega) (by omega)]
  rw [en,Z1z (by omega),Option.bind_some,Int.tmod_eq_emod_of_nonneg ha.1]
  by_cases h2:a % (n:Int)=0
  · rw [c0 (by simpa using h2),J9 (show (dm r t).volatile.regs.length=32 from h.rl),Option.bind_some]
    show(bif decide (IntKind.wrap .u32 (IntKind.wrap .i64 ((r.Data.length:Int) - (n:Int))) < IntKind.wrap .u32 (a - 268435456)) then some ((0:Int),false) else some (IntKind.wrap .i64 (IntKind.wrap .u32 (a - 268435456)),true))=_
    rw [w64 (x:=(r.Data.length:Int) - (n:Int)) (by omega),D5,D5,Int.emod_eq_of_lt (a:=(r.Data.length:Int) - (n:Int)) (by omega) (by omega),Int.emod_eq_of_lt (a:=a - 268435456) (by omega) (by omega),w64 (by omega)]
    by_cases h3:(r.Data.length:Int) - (n:Int) < a - 268435456
    · rw [c1 (dt h3),if_neg (by simp [inD]; omega)]
    · rw [c0 (df h3),if_pos (by simp [inD,h2]; omega)]
  · rw [c1 (by simpa using h2),if_neg (by simp [inD,h2])]
theorem Z6k {a:Int} {n:Nat} (h:inD r a n=true):0≤a - 268435456∧(a - 268435456).toNat+n≤r.Data.length:=by
  simp only [inD,Bool.and_eq_true,decide_eq_true_eq] at h
  omega
def bf (r:Q0) (F k:Nat):Int:=r.Data.getD (F+k) 0
theorem bf_rg (h:RW r) (F k:Nat):0≤bf r F k∧bf r F k < 256:=by
  unfold bf
  rw [List.getD_eq_getElem?_getD]
  cases hg:r.Data[F+k]? with
  | none=>exact⟨by decide,by decide⟩
  | some x=>exact h.dw x (List.mem_of_getElem? hg)
theorem bf_idx {F k:Nat} (hk:F+k < r.Data.length) {z:Int} (hz:z=((F+k:Nat):Int)):idx r.Data z=some (bf r F k):=by
  subst hz
  rw [F2 hk]
  unfold bf
  rw [List.getD_eq_getElem?_getD,List.getElem?_eq_getElem hk]
  rfl
def ext (o x:Int):Int:=if o=11 then (if 128≤x then x+4294967040 else x) else if o=12 then (if 32768≤x then x+4294901760 else x) else x
theorem sign8 {x:Int} (h:0≤x∧x < 256):G0 x (IntKind.wrap .i64 (8 * ((1:Nat):Int)))=some (if 128≤x then x+4294967040 else x):=by
  have e:G0 x (IntKind.wrap .i64 (8 * ((1:Nat):Int)))=some (IntKind.wrap .u32 (Int.fdiv (IntKind.wrap .i32 (IntKind.wrap .u32 (x * 16777216))) 16777216)):=by kernel_rfl
  rw [e,D5 (x * 16777216),Int.emod_eq_of_lt (by omega) (by omega),Z4h (by omega),Int.fdiv_eq_ediv_of_nonneg _ (by decide),D5]
  congr 1
  unfold sgn
  split <;> split <;> omega
theorem sign16 {x:Int} (h:0≤x∧x < 65536):G0 x (IntKind.wrap .i64 (8 * ((2:Nat):Int)))=some (if 32768≤x then x+4294901760 else x):=by
  have e:G0 x (IntKind.wrap .i64 (8 * ((2:Nat):Int)))=some (IntKind.wrap .u32 (Int.fdiv (IntKind.wrap .i32 (IntKind.wrap .u32 (x * 65536))) 65536)):=by kernel_rfl
  rw [e,D5 (x * 65536),Int.emod_eq_of_lt (by omega) (by omega),Z4h (by omega),Int.fdiv_eq_ediv_of_nonneg _ (by decide),D5]
  congr 1
  unfold sgn
  split <;> split <;> omega
theorem load_dev (h:RW r) {o a:Int} (ho:11≤o∧o≤15) (ha:Wd a) (hio : ¬ (o=13∧a=536870924)) {n:Nat} (hn:n=1 ∨ n=2 ∨ n=4) (hs:szO o=(n:Int)) (hi:inD r a n=true) :
    U1 (dm r t) o a=some (ext o (bv (bf r (a - 268435456).toNat) n),true):=by
  obtain⟨h0,hF⟩:=Z6k hi
  have hd:=h.dl
  obtain⟨F,hFe⟩ : ∃ F:Nat,F=(a - 268435456).toNat:=⟨_,rfl⟩
  rw [← hFe] at hF ⊢
  have hrg:=fun k=>bf_rg h F k
  unfold U1
  dsimp only [jn]
  rw [c0 (by simpa using hio),(Q3c (by omega)).1,Option.bind_some,hs,Z1r h ha hn,Option.bind_some,if_pos hi]
  dsimp only
  rw [c0 (by rfl)]
  refine run_bind (fun k=>(bv (bf r F) k,(k:Int))) n (.brk (bv (bf r F) n,(n:Int))) rfl (by omega) (fun k hk => ?_) ?_ trivial ?_
  · dsimp only
    rw [c1 (dlt hk),J9 (show (dm r t).volatile.regs.length=32 from h.rl),Option.bind_some,show idx (dm r t).data (IntKind.wrap .i64 ((a - 268435456)+(k:Int)))=some (bf r F k) from bf_idx (by omega) (by rw [w64 (by omega)]; omega),Option.bind_some,nn_ok (by rw [w64 (by omega)]; omega),Option.bind_some,orB (by omega) (Z8r (fun j _=>hrg j) k (Nat.le_refl k)) (hrg k),w64 (by omega)]
    rfl
  · dsimp only
    rw [c0 (dge _)]
  · dsimp only [Lp.thn]
    have hb:=Z8r (n:=n) (fun j _=>hrg j) n (Nat.le_refl n)
    unfold ext
    by_cases h11:o=11
    · subst h11
      obtain rfl:n=1:=by have:szO 11=1:=rfl; omega
      rw [c1 (by rfl),sign8 (by simpa using hb),Option.bind_some,if_pos rfl]
    · by_cases h12:o=12
      · subst h12
        obtain rfl:n=2:=by have:szO 12=2:=rfl; omega
        rw [c1 (by rfl),sign16 (by simpa using hb),Option.bind_some,if_neg (show ¬ (12:Int)=11 by decide),if_pos rfl]
      · rw [c0 (by simp [h11,h12]),if_neg h11,if_neg h12]
theorem load_ref (h:RW r) {o a:Int} (ho:11≤o∧o≤15) (ha:Wd a) (hio : ¬ (o=13∧a=536870924)) {n:Nat} (hn:n=1 ∨ n=2 ∨ n=4) (hs:szO o=(n:Int)) (hi:inD r a n=true) :
    U5 r o a=some (ext o (bv (bf r (a - 268435456).toNat) n),true):=by
  obtain⟨h0,hF⟩:=Z6k hi
  have hd:=h.dl
  obtain⟨F,hFe⟩ : ∃ F:Nat,F=(a - 268435456).toNat:=⟨_,rfl⟩
  rw [← hFe] at hF ⊢
  have hrg:=fun k=>bf_rg h F k
  unfold U5
  dsimp only [jn]
  rw [(Q3c (by omega)).2,Option.bind_some,hs,c0 (by simpa using hio),in_eq h ha hn,Option.bind_some,hi,c0 (by rfl)]
  refine run_bind (fun k=>(rv (bf r F) n k,(n:Int) - 1 - (k:Int))) n (.brk (rv (bf r F) n n,-1)) (by rw [w64 (by omega)]; simp [rv]) (by omega) (fun k hk => ?_) ?_ trivial ?_
  · have hv:=rv_rg (n:=n) (fun j _=>hrg j) k (by omega)
    have h256:(256:Int) ^ k≤16777216:=by
      have:k=0 ∨ k=1 ∨ k=2 ∨ k=3:=by omega
      rcases this with rfl | rfl | rfl | rfl <;> decide
    have hb:=hrg (n - 1 - k)
    dsimp only
    rw [c1 (dt (by omega)),w64 (x:=a - 268435456) (by omega),bf_idx (F:=F) (k:=n - 1 - k) (by omega) (by rw [w64 (by omega)]; omega),Option.bind_some,w64 (x:=256 * rv (bf r F) n k) (by omega),w64 (x:=bf r F (n - 1 - k)) (by omega),w64 (by omega),w64 (by omega)]
    congr 3
    omega
  · dsimp only
    rw [show ((n:Int) - 1 - (n:Int)) = -1 by omega,c0 (by rfl)]
  · dsimp only [Lp.thn]
    have hb:=Z8r (n:=n) (fun j _=>hrg j) n (Nat.le_refl n)
    rw [rv_bv _ hn]
    unfold ext
    by_cases h11:o=11
    · subst h11
      obtain rfl:n=1:=by have:szO 11=1:=rfl; omega
      have hb:0≤bv (bf r F) 1∧bv (bf r F) 1 < 256:=by simpa using hb
      rw [if_pos rfl]
      by_cases hx:128≤bv (bf r F) 1
      · rw [c1 (by simp [hx]),c0 (by simp),w64 (by omega),P2 (by omega),Option.bind_some,if_pos hx]
        congr 2; omega
      · rw [c0 (by simp [hx]),c0 (by simp),P2 (by omega),Option.bind_some,if_neg hx]
        congr 2; omega
    · by_cases h12:o=12
      · subst h12
        obtain rfl:n=2:=by have:szO 12=2:=rfl; omega
        have hb:0≤bv (bf r F) 2∧bv (bf r F) 2 < 65536:=by simpa using hb
        rw [if_neg (show ¬ (12:Int)=11 by decide),if_pos rfl,c0 (by rfl)]
        by_cases hx:32768≤bv (bf r F) 2
        · rw [c1 (by simp [hx]),w64 (by omega),P2 (by omega),Option.bind_some,if_pos hx]
          congr 2; omega
        · rw [c0 (by simp [hx]),P2 (by omega),Option.bind_some,if_neg hx]
          congr 2; omega
      · have h256:(256:Int) ^ n≤4294967296:=by rcases hn with rfl | rfl | rfl <;> decide
        rw [c0 (by simp [h11]),c0 (by simp [h12]),if_neg h11,if_neg h12,P2 (by omega),Option.bind_some]
        congr 2; omega
theorem load_sim (h:RW r) {o a:Int} (ho:11≤o∧o≤15) (ha:Wd a) : ∃ v b,U1 (dm r t) o a=some (v,b)∧U5 r o a=some (v,b)∧Wd v:=by
  obtain⟨n,hs,hn⟩:=Z9f o
  by_cases hio:o=13∧a=536870924
  · obtain⟨rfl,rfl⟩:=hio
    have hx:=h.ix
    have hil:=h.il
    unfold U1 U5
    dsimp only [jn]
    rw [c1 (b:=((13:Int) == 13)&&((536870924:Int) == 536870924)) (by rfl),J9 (show (dm r t).volatile.regs.length=32 from h.rl),Option.bind_some,(Q3c (by omega)).2,Option.bind_some,c1 (b:=((13:Int) == 13)&&((536870924:Int) == 536870924)) (by rfl)]
    show ∃ v b,(bif decide (r.Index < IntKind.wrap .u32 (r.Inputs.length:Int)) then ((idx r.Inputs r.Index).bind fun u1=>some (u1,true)) else some ((0:Int),true))=some (v,b)∧_
    rw [D5,Int.emod_eq_of_lt (by omega) (by omega),w64 (x:=r.Index) (by omega)]
    by_cases hlt:r.Index < (r.Inputs.length:Int)
    · obtain⟨k,hk⟩ : ∃ k:Nat,r.Index=k:=⟨r.Index.toNat,by omega⟩
      have hk' : k < r.Inputs.length:=by omega
      rw [c1 (dt hlt),hk,F2 hk',Option.bind_some]
      exact⟨_,_,rfl,rfl,h.iw _ (List.getElem_mem hk')⟩
    · rw [c0 (df hlt)]
      exact⟨_,_,rfl,rfl,by omega⟩
  · cases hi:inD r a n with
    | true =>
      refine⟨_,_,load_dev h ho ha hio hn hs hi,load_ref h ho ha hio hn hs hi,?_⟩
      have hb:=Z8r (f:=bf r (a - 268435456).toNat) (n:=n) (fun j _=>bf_rg h _ j) n (Nat.le_refl n)
      unfold ext
      have h256:(256:Int) ^ n≤4294967296:=by rcases hn with rfl | rfl | rfl <;> decide
      by_cases h11:o=11
      · subst h11
        obtain rfl:n=1:=by have:szO 11=1:=rfl; omega
        rw [if_pos rfl]
        split <;> omega
      · rw [if_neg h11]
        by_cases h12:o=12
        · subst h12
          obtain rfl:n=2:=by have:szO 12=2:=rfl; omega
          rw [if_pos rfl]
          split <;> omega
        · rw [if_neg h12]; omega
    | false =>
      refine⟨0,false,?_,?_,by omega⟩
      · unfold U1
        dsimp only [jn]
        rw [c0 (by simpa using hio),(Q3c (by omega)).1,Option.bind_some,hs,Z1r h ha hn,Option.bind_some,if_neg (by rw [hi]; simp)]
        rfl
      · unfold U5
        dsimp only [jn]
        rw [(Q3c (by omega)).2,Option.bind_some,hs,c0 (by simpa using hio),in_eq h ha hn,Option.bind_some,hi]
        rfl
end
theorem wu8 (n:Int):IntKind.wrap .u8 n=n % 256:=by
  simp only [IntKind.wrap,IntKind.signed,IntKind.bits]
  simp
def sb (l:List Int) (F:Nat) (v:Int):Nat→List Int
  | 0=>l
  | k+1=>(sb l F v k).set (F+k) (v / 256 ^ k % 256)
theorem Z0w (l:List Int) (F:Nat) (v:Int) : ∀ k,(sb l F v k).length=l.length
  | 0=>rfl
  | k+1=>by show ((sb l F v k).set _ _).length=_; rw [List.length_set,Z0w l F v k]
theorem sb_rg {l:List Int} (h : ∀ x ∈ l,0≤x∧x < 256) (F:Nat) (v:Int) : ∀ k,∀ x ∈ sb l F v k,0≤x∧x < 256
  | 0=>h
  | k+1=>fun x hx=>by
    rcases List.mem_or_eq_of_mem_set hx with hx | rfl
    · exact sb_rg h F v k x hx
    · omega
section
variable {r:Q0} {t:List Y7}
def RWs (r:Q0):Prop:=RW {r with Steps:=r.Steps+1}
theorem RW.s (h:RW r):RWs r:=⟨h.rl,h.rw,h.r0,h.pc,h.sq,h.ix,h.cw,h.cl,h.dw,h.dl,h.iw,h.il,by have:=h.ll; show (r.Log.length:Int)≤r.Steps+1; omega,by have:=h.st; show 0≤r.Steps+1; omega⟩
def stR (r:Q0) (o a v:Int):Bool×Q0 :=
  if o=18∧a=536870912 then (true,{r with Seq:=v})
  else if o=18∧a=536870916 then (true,{r with Log:=r.Log ++ [⟨r.Seq,v⟩]})
  else if o=18∧a=536870920 then (true,{r with Index:=v})
  else if o=18∧a=536870928 then (true,{r with State:=1,Exit:=v})
  else if inD r a (szO o).toNat then (true,{r with Data:=sb r.Data (a - 268435456).toNat v (szO o).toNat})
  else (false,r)
theorem Z8f (h:RW r) (hs:r.Steps≤1000000) (v:Int):room (List.length r.Log+List.length ([(⟨r.Seq,v⟩:K8)]:List K8))=some ():=Z5x (by have:=h.ll; simp; omega)
theorem byte_eq {v:Int} (hv:Wd v) {k:Nat} (hk:k < 4):IntKind.wrap .u8 (Int.fdiv v (2 ^ (min (Int.toNat (IntKind.wrap .i64 (8 * (k:Int)))) (IntKind.bits .u32))))=v / 256 ^ k % 256:=by
  have he:min (Int.toNat (IntKind.wrap .i64 (8 * (k:Int)))) (IntKind.bits .u32)=8 * k:=by
    rw [w64 (by omega)]
    simp only [IntKind.bits]
    omega
  have hp:((2:Int) ^ (8 * k))=256 ^ k:=by rw [Int.pow_mul]; rfl
  rw [he,hp,Int.fdiv_eq_ediv_of_nonneg _ (Int.le_of_lt (Int.pow_pos (by decide))),wu8]
theorem Z7i (h:RW r) {a v:Int} (hv:Wd v) {n:Nat} (hn:n=1 ∨ n=2 ∨ n=4) (hi:inD r a n=true) {A:Type} {K:Lp (List Int×Int) Unit→Option A} {X:Option A} (hK:K (.brk (sb r.Data (a - 268435456).toNat v n,(n:Int)))=X) :
    (Y9 (fun(x1,x2)=>(bif decide (x2 < (n:Int)) then ((J0 (dm r t).volatile.regs 32).bind fun _=>(nn (IntKind.wrap .i64 (8 * x2))).bind fun _=>(idx x1 (IntKind.wrap .i64 ((a - 268435456)+x2))).bind fun u1=>(idx x1 (IntKind.wrap .i64 ((a - 268435456)+x2))).bind fun u2=>some (Lp.go (List.set x1 (Int.toNat (IntKind.wrap .i64 ((a - 268435456)+x2))) (IntKind.wrap .u8 (Int.fdiv v (2 ^ (min (Int.toNat (IntKind.wrap .i64 (8 * x2))) (IntKind.bits .u32))))),IntKind.wrap .i64 (x2+1)))) else (some (Lp.brk (x1,x2))):Option (Lp ((List Int)×Int) (Unit)))) NN (r.Data,(0:Int))).bind K=X:=by
  obtain⟨h0,hF⟩:=Z6k hi
  have hd:=h.dl
  obtain⟨F,hFe⟩ : ∃ F:Nat,F=(a - 268435456).toNat:=⟨_,rfl⟩
  rw [← hFe] at hF hK
  refine run_bind (fun k=>(sb r.Data F v k,(k:Int))) n (.brk (sb r.Data F v n,(n:Int))) rfl (by omega) (fun k hk => ?_) ?_ trivial hK
  · have hl:=Z0w r.Data F v k
    have hz:IntKind.wrap .i64 ((a - 268435456)+(k:Int))=((F+k:Nat):Int):=by rw [w64 (by omega)]; omega
    dsimp only
    rw [c1 (dlt hk),J9 (show (dm r t).volatile.regs.length=32 from h.rl),Option.bind_some,nn_ok (by rw [w64 (by omega)]; omega),Option.bind_some,hz,F2 (by omega),Option.bind_some,Option.bind_some,byte_eq hv (by omega),w64 (by omega),Int.toNat_natCast]
    rfl
  · dsimp only
    rw [c0 (dge _)]
theorem Z7h (h:RW r) {a v:Int} (hv:Wd v) {n:Nat} (hn:n=1 ∨ n=2 ∨ n=4) (hi:inD r a n=true) {A:Type} {K:Lp (List Int×Int×Int) Unit→Option A} {X:Option A} (hK:K (.brk (sb r.Data (a - 268435456).toNat v n,v / 256 ^ n,(n:Int)))=X) :
    (Y9 (fun(x2,x3,x4)=>(bif decide (x4 < (n:Int)) then ((idx x2 (IntKind.wrap .i64 ((IntKind.wrap .i64 (a - 268435456))+x4))).bind fun u1=>(idx x2 (IntKind.wrap .i64 ((IntKind.wrap .i64 (a - 268435456))+x4))).bind fun u2=>some (Lp.go (List.set x2 (Int.toNat (IntKind.wrap .i64 ((IntKind.wrap .i64 (a - 268435456))+x4))) (IntKind.wrap .u8 (Int.tmod x3 256)),IntKind.wrap .i64 (Int.tdiv x3 256),IntKind.wrap .i64 (x4+1)))) else (some (Lp.brk (x2,x3,x4))):Option (Lp ((List Int)×Int×Int) (Unit)))) NN (r.Data,IntKind.wrap .i64 v,(0:Int))).bind K=X:=by
  obtain⟨h0,hF⟩:=Z6k hi
  have hd:=h.dl
  obtain⟨F,hFe⟩ : ∃ F:Nat,F=(a - 268435456).toNat:=⟨_,rfl⟩
  rw [← hFe] at hF hK
  refine run_bind (fun k=>(sb r.Data F v k,v / 256 ^ k,(k:Int))) n (.brk (sb r.Data F v n,v / 256 ^ n,(n:Int))) (by rw [w64 (by omega)]; simp [sb]) (by omega) (fun k hk => ?_) ?_ trivial hK
  · have hl:=Z0w r.Data F v k
    have hz:IntKind.wrap .i64 ((IntKind.wrap .i64 (a - 268435456))+(k:Int))=((F+k:Nat):Int):=by rw [w64 (x:=a - 268435456) (by omega),w64 (by omega)]; omega
    have hp:(0:Int) < 256 ^ k:=Int.pow_pos (by decide)
    have hq:0≤v / 256 ^ k∧v / 256 ^ k≤v:=⟨Int.ediv_nonneg hv.1 (Int.le_of_lt hp),Int.ediv_le_self _ hv.1⟩
    have hdd:v / 256 ^ k / 256=v / 256 ^ (k+1):=by rw [Int.pow_succ,Int.ediv_ediv_of_nonneg (Int.le_of_lt hp)]
    dsimp only
    rw [c1 (dlt hk),hz,F2 (by omega),Option.bind_some,Option.bind_some,Int.tmod_eq_emod_of_nonneg hq.1,Int.tdiv_eq_ediv_of_nonneg hq.1,hdd,wu8,Int.emod_emod_of_dvd _ (by decide),w64 (x:=v / 256 ^ (k+1)) (by rw [← hdd]; omega),w64 (by omega),Int.toNat_natCast]
    rfl
  · dsimp only
    rw [c0 (dge _)]
theorem Y1y (h:RW r) (hst:r.Steps≤1000000) {o a v:Int} (ho:16≤o∧o≤18) (ha:Wd a) (hv:Wd v):G8 r o a v=some (stR r o a v):=by
  obtain⟨n,hs,hn⟩:=Z9f o
  have hsn:(szO o).toNat=n:=by omega
  have hp : ∀ k:Int,(IntKind.wrap .i64 (a - 536870912) == k)=decide (a=536870912+k):=by
    intro k
    rw [w64 (by omega)]
    by_cases h:a=536870912+k
    · rw [dt h]; simp; omega
    · rw [df h]; simp; omega
  have ho2:(o == 18)=decide (o=18):=by by_cases h:o=18 <;> simp [h]
  unfold G8 stR
  dsimp only [jn]
  rw [hp,hp,hp,hp,ho2,Z8f h hst,hsn]
  simp only [← Bool.decide_and,Int.add_zero]
  by_cases h1:o=18∧a=536870912
  · rw [c1 (dt (by simpa using h1)),if_pos h1]
  rw [c0 (df (by simpa using h1)),if_neg h1]
  by_cases h2:o=18∧a=536870916
  · rw [c1 (dt (by simpa using h2)),if_pos h2]; rfl
  rw [c0 (df (by simpa using h2)),if_neg h2]
  by_cases h3:o=18∧a=536870920
  · rw [c1 (dt (by simpa using h3)),if_pos h3]
  rw [c0 (df (by simpa using h3)),if_neg h3]
  by_cases h4:o=18∧a=536870928
  · rw [c1 (dt (by simpa using h4)),if_pos h4]
  rw [c0 (df (by simpa using h4)),if_neg h4,(Q3c (by omega)).2,Option.bind_some,hs,in_eq h ha hn,Option.bind_some]
  cases hi:inD r a n with
  | false=>rfl
  | true =>
    rw [c0 (by rfl),if_pos rfl]
    exact Z7h h hv hn hi rfl
theorem Y1z (h:RW r) (hst:r.Steps≤1000000) {o a v:Int} (ho:16≤o∧o≤18) (ha:Wd a) (hv:Wd v):G4 (dm r t) o a v=some ((stR r o a v).1,dm (stR r o a v).2 t):=by
  obtain⟨n,hs,hn⟩:=Z9f o
  have hsn:(szO o).toNat=n:=by omega
  have hL:J0 (dm r t).volatile.regs 32=some ():=J9 (show (dm r t).volatile.regs.length=32 from h.rl)
  have hR:room (List.length (dm r t).log+List.length ([(⟨(dm r t).volatile.seq,v⟩:K8)]:List K8))=some ():=Z8f h hst v
  have tail : ∀(b:Bool),((M4 o).bind fun y4=>(V5 (dm r t) a y4).bind fun y5=>bif !y5.2 then (some (false,dm r t)) else ((Y9 (fun(x3,x4)=>(bif decide (x4 < y4) then ((J0 (dm r t).volatile.regs 32).bind fun _=>(nn (IntKind.wrap .i64 (8 * x4))).bind fun _=>(idx x3 (IntKind.wrap .i64 (y5.1+x4))).bind fun u3=>(idx x3 (IntKind.wrap .i64 (y5.1+x4))).bind fun u4=>some (Lp.go (List.set x3 (Int.toNat (IntKind.wrap .i64 (y5.1+x4))) (IntKind.wrap .u8 (Int.fdiv v (2 ^ (min (Int.toNat (IntKind.wrap .i64 (8 * x4))) (IntKind.bits .u32))))),IntKind.wrap .i64 (x4+1)))) else (some (Lp.brk (x3,x4))):Option (Lp ((List Int)×Int) (Unit)))) NN ((dm r t).data,(0:Int))).bind fun o=>o.thn (fun(x3,x4)=>some (true,{(dm r t) with data:=x3})) (fun _=>none)))=some (if inD r a n then (true,dm {r with Data:=sb r.Data (a - 268435456).toNat v n} t) else (false,dm r t)):=by
    intro _
    rw [(Q3c (by omega)).1,Option.bind_some,hs,Z1r h ha hn,Option.bind_some]
    cases hi:inD r a n with
    | false=>rfl
    | true =>
      rw [if_pos rfl,if_pos rfl]
      dsimp only
      rw [c0 (by rfl)]
      exact Z7i h hv hn hi rfl
  unfold G4 stR
  rw [hsn]
  by_cases h18:o=18
  · rw [c1 (by simpa using h18)]
    unfold D4
    dsimp only [jn]
    rw [hL,hR]
    by_cases h1:a=536870912
    · rw [c1 (by simpa using h1),if_pos ⟨h18,h1⟩]; rfl
    rw [c0 (by simpa using h1),if_neg (fun h=>h1 h.2)]
    by_cases h2:a=536870916
    · rw [c1 (by simpa using h2),if_pos ⟨h18,h2⟩]; rfl
    rw [c0 (by simpa using h2),if_neg (fun h=>h2 h.2)]
    by_cases h3:a=536870920
    · rw [c1 (by simpa using h3),if_pos ⟨h18,h3⟩]; rfl
    rw [c0 (by simpa using h3),if_neg (fun h=>h3 h.2)]
    by_cases h4:a=536870928
    · rw [c1 (by simpa using h4),if_pos ⟨h18,h4⟩]; rfl
    rw [c0 (by simpa using h4),if_neg (fun h=>h4 h.2),Option.bind_some]
    refine(c0 (by rfl)).trans ((tail true).trans ?_)
    cases inD r a n <;> rfl
  · rw [c0 (by simpa using h18),if_neg (fun h=>h18 h.1),if_neg (fun h=>h18 h.1),if_neg (fun h=>h18 h.1),if_neg (fun h=>h18 h.1),tail true]
    cases inD r a n <;> rfl
def KD (r r' : Q0):Prop:=r'.Code=r.Code∧r'.Data.length=r.Data.length
theorem stR_ok (h:RW r) {o a v:Int} (hv:Wd v):((stR r o a v).1=true→RWs (stR r o a v).2)∧((stR r o a v).1=false→(stR r o a v).2=r)∧(stR r o a v).2.Regs=r.Regs∧(stR r o a v).2.Steps=r.Steps∧KD r (stR r o a v).2∧(stR r o a v).2.Pc=r.Pc:=by
  have hs:=h.s
  unfold stR
  split
  · exact⟨fun _=>⟨hs.rl,hs.rw,hs.r0,hs.pc,hv,hs.ix,hs.cw,hs.cl,hs.dw,hs.dl,hs.iw,hs.il,hs.ll,hs.st⟩,fun h=>(by cases h),rfl,rfl,⟨rfl,rfl⟩,rfl⟩
  · split
    · exact⟨fun _=>⟨hs.rl,hs.rw,hs.r0,hs.pc,hs.sq,hs.ix,hs.cw,hs.cl,hs.dw,hs.dl,hs.iw,hs.il,by have:=h.ll; show ((r.Log ++ [(⟨r.Seq,v⟩:K8)]).length:Int)≤r.Steps+1; rw [List.length_append]; simp; omega,hs.st⟩,fun h=>(by cases h),rfl,rfl,⟨rfl,rfl⟩,rfl⟩
    · split
      · exact⟨fun _=>⟨hs.rl,hs.rw,hs.r0,hs.pc,hs.sq,hv,hs.cw,hs.cl,hs.dw,hs.dl,hs.iw,hs.il,hs.ll,hs.st⟩,fun h=>(by cases h),rfl,rfl,⟨rfl,rfl⟩,rfl⟩
      · split
        · exact⟨fun _=>⟨hs.rl,hs.rw,hs.r0,hs.pc,hs.sq,hs.ix,hs.cw,hs.cl,hs.dw,hs.dl,hs.iw,hs.il,hs.ll,hs.st⟩,fun h=>(by cases h),rfl,rfl,⟨rfl,rfl⟩,rfl⟩
        · split
          · exact⟨fun _=>⟨hs.rl,hs.rw,hs.r0,hs.pc,hs.sq,hs.ix,hs.cw,hs.cl,sb_rg h.dw _ _ _,by rw [Z0w]; exact h.dl,hs.iw,hs.il,hs.ll,hs.st⟩,fun h=>(by cases h),rfl,rfl,⟨rfl,Z0w _ _ _ _⟩,rfl⟩
          · exact⟨fun h=>(by cases h),fun _=>rfl,rfl,rfl,⟨rfl,rfl⟩,rfl⟩
end
theorem lowN (x:Nat) (h:x < 4294967296):x &&& 4294967294=x / 2 * 2:=by
  rw [show (4294967294:Nat)=(2 ^ 31 - 1) <<< 1 from rfl,show x / 2 * 2=(x >>> 1) <<< 1 by rw [Nat.shiftLeft_eq,Nat.shiftRight_eq_div_pow]]
  apply Nat.eq_of_testBit_eq
  intro i
  rw [Nat.testBit_and,Nat.testBit_shiftLeft,Nat.testBit_shiftLeft,Nat.testBit_shiftRight,Nat.testBit_two_pow_sub_one]
  by_cases h1:1≤i
  · simp only [ge_iff_le,h1,decide_true,Bool.true_and]
    rw [show 1+(i - 1)=i by omega]
    by_cases h2:i - 1 < 31
    · simp [h2]
    · rw [Nat.testBit_lt_two_pow (Nat.lt_of_lt_of_le h (show 4294967296≤2 ^ i from Nat.pow_le_pow_right (n:=2) (by omega) (show 32≤i by omega)))]
      rfl
  · simp [h1]
theorem andN1 {x:Int} (h:Wd x):bits .andNot .u32 x 1=x - x % 2:=by
  obtain⟨n,rfl⟩ : ∃ n:Nat,x=n:=⟨x.toNat,by omega⟩
  have hn:n < 4294967296:=by omega
  show IntKind.u32.wrap ((BitVec.ofInt 32 (n:Int) &&& ~~~ BitVec.ofInt 32 1).toNat:Int)=_
  rw [BitVec.toNat_and,bvW hn,show (~~~ BitVec.ofInt 32 1).toNat=4294967294 by decide +kernel,lowN n hn,D5]
  omega
section
variable {r:Q0} {t:List Y7}
def setR (r:Q0) (d v:Int):Q0:=if 0 < d then {r with Regs:=r.Regs.set d.toNat v} else r
theorem idxN {l:List Int} {z:Int} {n:Nat} (hl:l.length=n) (h:0≤z∧z < n) : ∃ x,idx l z=some x∧x ∈ l∧l[z.toNat]? = some x:=by
  obtain⟨k,rfl⟩ : ∃ k:Nat,z=k:=⟨z.toNat,by omega⟩
  have hk:k < l.length:=by omega
  exact⟨l[k],F2 hk,List.getElem_mem hk,by simp [hk]⟩
theorem Q5x (h:RW r) {d v:Int} (hd:0≤d∧d < 32):X5 r d v=some (setR r d v):=by
  unfold X5 setR
  by_cases h0:0 < d
  · obtain⟨x,hx,_⟩:=idxN h.rl hd
    rw [c1 (dt h0),hx,if_pos h0]; rfl
  · rw [c0 (df h0),if_neg h0]
theorem setR_clr (h:RW r) {d v:Int} (hd:0≤d∧d < 32):(r.Regs.set d.toNat v).set 0 0=(setR r d v).Regs:=by
  have hz:r.Regs.set 0 0=r.Regs:=by
    apply List.ext_getElem? 
    intro i
    rw [List.getElem?_set]
    by_cases hi:0=i
    · subst hi; rw [if_pos rfl,if_pos (by rw [h.rl]; decide),h.r0]
    · rw [if_neg hi]
  unfold setR
  by_cases h0:0 < d
  · rw [if_pos h0,List.set_comm _ _ (by omega),hz]
  · have:d.toNat=0:=by omega
    rw [if_neg h0,this,List.set_set,hz]
theorem setR_rw (h:RW r) {d v:Int} (hd:0≤d∧d < 32) (hv:Wd v):RW (setR r d v):=by
  unfold setR
  by_cases h0:0 < d
  · rw [if_pos h0]
    refine⟨by show (r.Regs.set _ _).length=32; rw [List.length_set]; exact h.rl,fun x hx => ?_,?_,h.pc,h.sq,h.ix,h.cw,h.cl,h.dw,h.dl,h.iw,h.il,h.ll,h.st⟩
    · rcases List.mem_or_eq_of_mem_set hx with hx | rfl
      · exact h.rw x hx
      · exact hv
    · show(r.Regs.set d.toNat v)[0]? = some 0
      rw [List.getElem?_set,if_neg (by omega)]
      exact h.r0
  · rw [if_neg h0]; exact h
theorem Z0c {z:Int} (h : -9223372036854775808≤z∧z < 9223372036854775808):N7 z=some (z % 4294967296):=by
  unfold N7
  have:=wm z
  rw [P2 h,Option.bind_some,w64 (by omega)]
def Z3n (r:Q0) (t:List Y7) (x:Option (Bool×Q0)) (y:Option (Bool×Q1)):Prop :=
  ∃ b r' g,x=some (b,r')∧y=some (b,{dm r' t with volatile := {(dm r' t).volatile with regs:=g}})∧g.length=32∧r'.Steps=r.Steps∧KD r r' ∧ (b=true→RWs r' ∧ g.set 0 0=r'.Regs)∧(b=false→r' = r∧g=r.Regs)
theorem RW.at (h:RW r) {p:Int} (hp:Wd p):RWs {r with Pc:=p} := ⟨h.s.rl,h.s.rw,h.s.r0,hp,h.s.sq,h.s.ix,h.s.cw,h.s.cl,h.s.dw,h.s.dl,h.s.iw,h.s.il,h.s.ll,h.s.st⟩
theorem RWs.at (h:RWs r) {p:Int} (hp:Wd p):RWs {r with Pc:=p} := ⟨h.rl,h.rw,h.r0,hp,h.sq,h.ix,h.cw,h.cl,h.dw,h.dl,h.iw,h.il,h.ll,h.st⟩
theorem Q1i (h:RW r) {d v p:Int} (hd:0≤d∧d < 32) (hv:Wd v) (hp:Wd p):Z3n r t (some (true,{setR r d v with Pc:=p})) (some (true,{dm r t with volatile := {(dm r t).volatile with regs:=r.Regs.set d.toNat v,pc:=p}})):=by
  have hs:=setR_rw h hd hv
  refine⟨true,{setR r d v with Pc:=p},r.Regs.set d.toNat v,rfl,?_,by rw [List.length_set]; exact h.rl,?_,?_,fun _=>⟨hs.at hp,setR_clr h hd⟩,fun h=>by cases h⟩
  · unfold setR; split <;> rfl
  · unfold setR; split <;> rfl
  · unfold setR; split <;> exact⟨rfl,rfl⟩
theorem Z7m (h:RW r):r.Regs.set 0 0=r.Regs:=by
  apply List.ext_getElem?
  intro i
  rw [List.getElem?_set]
  by_cases hi:0=i
  · subst hi; rw [if_pos rfl,if_pos (by rw [h.rl]; decide),h.r0]
  · rw [if_neg hi]
theorem Y1o (h:RW r) {p:Int} (hp:Wd p):Z3n r t (some (true,{r with Pc:=p})) (some (true,{dm r t with volatile := {(dm r t).volatile with pc:=p}})) :=
  ⟨true,{r with Pc:=p},r.Regs,rfl,rfl,h.rl,rfl,⟨rfl,rfl⟩,fun _=>⟨h.at hp,Z7m h⟩,fun h=>by cases h⟩
theorem Y1n (h:RW r):Z3n r t (some (false,r)) (some (false,dm r t)) :=
  ⟨false,r,r.Regs,rfl,rfl,h.rl,rfl,⟨rfl,rfl⟩,fun h=>(by cases h),fun _=>⟨rfl,rfl⟩⟩
theorem do_sim (h:RW r) (hst:r.Steps≤1000000) {i:V4} (hi:IOk i):Z3n r t (D6 r i) (E8 (dm r t) i):=by
  obtain⟨a,ea,ma,_⟩:=idxN h.rl hi.r1
  obtain⟨b,eb,mb,_⟩:=idxN h.rl hi.r2
  obtain⟨d,ed,_,_⟩:=idxN h.rl hi.rd
  have ha:=h.rw a ma
  have hb:=h.rw b mb
  have hp:=h.pc
  have hm:=hi.im
  have hop:=hi.op
  have hL:J0 (dm r t).volatile.regs 32=some ():=J9 (show (dm r t).volatile.regs.length=32 from h.rl)
  have hI:IntKind.wrap .u32 i.Imm=i.Imm % 4294967296:=D5 _
  have hA:IntKind.wrap .u32 (a+i.Imm % 4294967296)=(a+i.Imm) % 4294967296:=by rw [D5]; omega
  have hN:IntKind.wrap .u32 ((dm r t).volatile.pc+4)=(r.Pc+4) % 4294967296:=D5 _
  have hJ:IntKind.wrap .u32 ((dm r t).volatile.pc+i.Imm % 4294967296)=(r.Pc+i.Imm) % 4294967296:=by rw [D5]; show (r.Pc+i.Imm % 4294967296) % 4294967296=_; omega
  have wA:=wm (a+i.Imm)
  have wN:=wm (r.Pc+4)
  have wJ:=wm (r.Pc+i.Imm)
  have wI:=wm i.Imm
  have uN:IntKind.wrap .u32 ((r.Pc+4) % 4294967296)=(r.Pc+4) % 4294967296:=by rw [D5]; omega
  unfold D6 E8
  rw [hL]
  simp only [Option.bind_some]
  rw [show (dm r t).volatile.regs=r.Regs from rfl,ea,eb,ed]
  simp only [Option.bind_some]
  rw [w64 (x:=a) (by omega),w64 (x:=a+i.Imm) (by omega),Z0c (z:=a+i.Imm) (by omega),w64 (x:=r.Pc+4) (by omega),Z0c (z:=r.Pc+4) (by omega),hI,hA,hN,hJ]
  simp only [Option.bind_some,jn]
  have lset : ∀(g:List Int) (v:Int),J0 (({dm r t with volatile := {(dm r t).volatile with regs:=g.set i.Rd.toNat v}} : Q1).volatile.regs) 32=J0 (g.set i.Rd.toNat v) 32:=fun _ _=>rfl
  have lset2 : ∀ v:Int,J0 (r.Regs.set i.Rd.toNat v) 32=some ():=fun v=>J9 (by rw [List.length_set]; exact h.rl)
  by_cases o1:i.Op=1
  · have n1:(i.Op == 1)=true:=by simpa using o1
    rw [c1 n1,c1 n1,P2 (by omega),Option.bind_some,Q5x h hi.rd,Option.bind_some]
    show Z3n r t _ ((J0 (r.Regs.set i.Rd.toNat (i.Imm % 4294967296)) 32).bind _)
    rw [lset2]
    exact Q1i h hi.rd wI wN
  have n1:(i.Op == 1)=false:=by simpa using o1
  rw [c0 n1,c0 n1]
  by_cases o2:i.Op=2
  · have n2:(i.Op == 2)=true:=by simpa using o2
    rw [c1 n2,c1 n2,w64 (x:=r.Pc+i.Imm) (by omega),P2 (by omega),Option.bind_some,Q5x h hi.rd,Option.bind_some]
    show Z3n r t _ ((J0 (r.Regs.set i.Rd.toNat ((r.Pc+i.Imm) % 4294967296)) 32).bind _)
    rw [lset2]
    exact Q1i h hi.rd wJ wN
  have n2:(i.Op == 2)=false:=by simpa using o2
  rw [c0 n2,c0 n2]
  by_cases o3:i.Op=3
  · have n3:(i.Op == 3)=true:=by simpa using o3
    rw [c1 n3,c1 n3,uN,Q5x h hi.rd,Option.bind_some]
    have e:(setR r i.Rd ((r.Pc+4) % 4294967296)).Pc=r.Pc:=by unfold setR; split <;> rfl
    rw [e,w64 (x:=r.Pc+i.Imm) (by omega),Z0c (by omega),Option.bind_some]
    show Z3n r t _ ((J0 (r.Regs.set i.Rd.toNat ((r.Pc+4) % 4294967296)) 32).bind _)
    rw [lset2]
    exact Q1i h hi.rd wN wJ
  have n3:(i.Op == 3)=false:=by simpa using o3
  rw [c0 n3,c0 n3]
  by_cases o4:i.Op=4
  · have n4:(i.Op == 4)=true:=by simpa using o4
    rw [c1 n4,c1 n4,uN,Q5x h hi.rd,Option.bind_some,andN1 wA,Int.tmod_eq_emod_of_nonneg wA.1,w64 (x:=(a+i.Imm) % 4294967296 - (a+i.Imm) % 4294967296 % 2) (by omega)]
    show Z3n r t _ ((J0 (r.Regs.set i.Rd.toNat ((r.Pc+4) % 4294967296)) 32).bind _)
    rw [lset2]
    exact Q1i h hi.rd wN (by omega)
  have n4:(i.Op == 4)=false:=by simpa using o4
  rw [c0 n4,c0 n4]
  by_cases o10:i.Op≤10
  · obtain⟨tk,e1,e2⟩:=taken (o:=i.Op) (by omega) ha hb
    rw [c1 (dt o10),c1 (dt o10),e1,e2,Option.bind_some,Option.bind_some]
    cases tk with
    | true =>
      rw [c1 rfl,c1 rfl,w64 (x:=r.Pc+i.Imm) (by omega),Z0c (by omega),Option.bind_some,hL]
      exact Y1o h wJ
    | false =>
      rw [c0 rfl,c0 rfl,hL]
      exact Y1o h wN
  rw [c0 (df o10),c0 (df o10)]
  by_cases o15:i.Op≤15
  · obtain⟨v,q,e1,e2,hv⟩:=load_sim (t:=t) h (o:=i.Op) (by omega) wA
    rw [c1 (dt o15),c1 (dt o15),e1,e2,Option.bind_some,Option.bind_some]
    cases q with
    | true =>
      dsimp only
      rw [c0 (b := !true) rfl,c0 (b := !true) rfl,Q5x h hi.rd,Option.bind_some]
      show Z3n r t _ ((J0 (r.Regs.set i.Rd.toNat v) 32).bind _)
      rw [lset2]
      exact Q1i h hi.rd hv wN
    | false=>exact Y1n h
  rw [c0 (df o15),c0 (df o15)]
  by_cases o18:i.Op≤18
  · rw [c1 (dt o18),c1 (dt o18),Y1y h hst (by omega) wA hb,Y1z h hst (by omega) wA hb,Option.bind_some,Option.bind_some]
    obtain⟨h1,h2,h3,h4,h5,h6⟩:=stR_ok (o:=i.Op) (a:=(a+i.Imm) % 4294967296) h hb
    generalize stR r i.Op ((a+i.Imm) % 4294967296) b=z at h1 h2 h3 h4 h5 h6
    obtain⟨q,r'⟩:=z
    dsimp only at h1 h2 h3 h4 h5 h6 ⊢
    cases q with
    | true =>
      have hl:r'.Regs.length=32:=by rw [h3]; exact h.rl
      rw [c0 (b := !true) rfl,c0 (b := !true) rfl,J9 (show (dm r' t).volatile.regs.length=32 from hl)]
      exact⟨true,{r' with Pc:=(r.Pc+4) % 4294967296},r'.Regs,rfl,rfl,hl,h4,h5,fun _=>⟨(h1 rfl).at wN,by show r'.Regs.set 0 0=r'.Regs; rw [h3]; exact Z7m h⟩,fun h=>by cases h⟩
    | false =>
      obtain rfl:=h2 rfl
      exact Y1n h
  rw [c0 (df o18),c0 (df o18)]
  by_cases o27:i.Op≤27
  · obtain⟨v,e1,e2,hv⟩:=reck (o:=i.Op) (by omega) ha wI
    rw [c1 (dt o27),c1 (dt o27),P2 (by omega),Option.bind_some,e1,e2,Option.bind_some,Option.bind_some,Q5x h hi.rd,Option.bind_some]
    show Z3n r t _ ((J0 (r.Regs.set i.Rd.toNat v) 32).bind _)
    rw [lset2]
    exact Q1i h hi.rd hv wN
  · obtain⟨v,e1,e2,hv⟩:=reck (o:=i.Op) (by omega) ha hb
    rw [c0 (df o27),c0 (df o27),e1,e2,Option.bind_some,Option.bind_some,Q5x h hi.rd,Option.bind_some]
    show Z3n r t _ ((J0 (r.Regs.set i.Rd.toNat v) 32).bind _)
    rw [lset2]
    exact Q1i h hi.rd hv wN
end
end Go.Proofs.YtecakklofhfphaaGreatDoor
