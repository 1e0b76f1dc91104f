/- Lemmas that hold for every program. -/
import Derived.Test.YtfffghclkmbopaaGreatKM
import Derived.Test.YtfffghclkmbopaaGreatKLB
import Derived.Lib.IndexBytes
import Derived.KernelRfl
set_option linter.unusedVariables false
namespace Go.Proofs.YtfffghclkmbopaaGreat
open List renaming length → qQ, length_append → qW, length_cons → qY, mem_cons → qZ, mem_append → jQ, set → qP, append_assoc → qS, length_take → qE, mem_singleton → kQ, getElem?_eq_getElem → kM, getElem?_append_left → kR, append_nil → jK, cons_append → jX, getElem_mem → jT
open IntKind renaming wrap → qJ
open Except renaming error → qK, ok → qX
open Option renaming bind_some → qV, isSome → kJ
open Bool renaming and_eq_true → qM
open Nat renaming le_refl → qD, zero_le → kX, le_trans → jH
open Int renaming eq_ofNat_of_zero_le → jR
section
theorem bnd{α β:Type}{m:Option α}{x:α}{f:α->Option β}{X:Option β}(h:m=some x)(k:f x=X):m.bind f=X:=by subst h;exact k
theorem exb{α β:Type}{m:Option α}{x:α}{f:α->Option β}{p:β->Prop}(h:m=some x)(k:∃y,f x=some y/\p y):∃y,m.bind f=some y/\p y:=by subst h;exact k
def letB(n:Int):Bool:=(decide (97<=n)&&decide (n<=122))||(decide (65<=n)&&decide (n<=90))||n==95
def digB(n:Int):Bool:=decide (48<=n)&&decide (n<=57)
def Q1q(c:UInt8):Bool:=letB (c.toNat:Int)||digB (c.toNat:Int)
theorem Y1z(n:Int):Z1i n=some (letB n):=by
 unfold Z1i letB;cases decide (97<=n)<;>cases decide (n<=122)<;>cases decide (65<=n)<;>cases decide (n<=90)<;>rfl
theorem Y1j(n:Int):Z1j n=some (digB n):=by
 unfold Z1j digB;cases decide (48<=n)<;>rfl
theorem more_eq(c:UInt8):Z8b (c.toNat:Int)=some (Q1q c):=by
 unfold Z8b Q1q;rw[Y1z,qV];cases letB (c.toNat:Int)with
 |true=>rfl
 |false=>rw[cond_false,Y1j];rfl
def sp(p:UInt8->Bool):List UInt8->Nat
 |[]=>0
 |x::l=>if p x then sp p l+1 else 0
theorem Z7k(p:UInt8->Bool):∀l,sp p l<=l.length
 |[]=>qD _
 |x::l=>by
  have:=Z7k p l
  unfold sp
  split
  . simp;omega
  . omega
theorem X0d(p:UInt8->Bool):∀(l:List UInt8)(k:Nat)(h:k<sp p l),p (l[k]'(Nat.lt_of_lt_of_le h (Z7k p l)))=true
 |[],k,h=>by simp[sp]at h
 |x::l,0,h=>by
  unfold sp at h
  split at h
  . assumption
  . omega
 |x::l,k+1,h=>by
  have h':=h
  unfold sp at h'
  split at h'
  . simpa using X0d p l k (by omega)
  . omega
theorem X1g(p:UInt8->Bool):∀(l:List UInt8)(h:sp p l<l.length),p l[sp p l]=false
 |[],h=>by simp at h
 |x::l,h=>by
  by_cases hx:p x=true
  . have e:sp p (x::l)=sp p l+1:=by show(if p x then sp p l+1 else 0)=_;rw[if_pos hx]
    have h2:sp p l<l.length:=by rw[e]at h;simp at h;omega
    have:=X1g p l h2
    simp only[e,List.getElem_cons_succ]
    exact this
  . have e:sp p (x::l)=0:=by show(if p x then sp p l+1 else 0)=_;rw[if_neg hx]
    simp only[e,List.getElem_cons_zero]
    simpa using hx
theorem X1h(p:UInt8->Bool)(l:List UInt8)(hl:l.length<4611686018427387904){body:Int->Option (Lp Int Unit)}{A:Type}{K:Lp Int Unit->Option A}{X:Option A}
 (h1:∀k (h:k<l.length),body (k:Int)=some (bif p l[k]then .go (qJ .i64 ((k:Int)+1))else .brk (k:Int))) (h2:body (l.length:Int)=some (.brk (l.length:Int)))
 (hX:K (.brk ((sp p l:Nat):Int))=X):(X8 body NN 0).bind K=X:=by
 have hle:=Z7k p l;refine run_bind (fun k=>(k:Int)) (sp p l) (.brk ((sp p l:Nat):Int)) rfl (by omega) (fun k hk=>?_) ?_ trivial hX
 . rw[h1 k (by omega),X0d p l k hk,cond_true,w64 (by omega)]
   congr 2
 . by_cases h:sp p l<l.length
   . rw[h1 _ h,X1g p l h,cond_false]
   . rw[show sp p l=l.length by omega];exact h2
theorem Z7j(l:List UInt8)(hl:l.length<4611686018427387904):Q7n l=some ((sp Q1q l:Nat):Int):=by
 unfold Q7n;refine X1h Q1q l hl (fun k hk=>?_) (by rw[c0 (dge _)]) rfl;rw[c1 (dlt hk),P6 hk,qV,more_eq,qV];cases Q1q l[k]<;>rfl
def words:List (List UInt8):=[([98,114,101,97,107]:List UInt8),([99,97,115,101]:List UInt8),([99,104,97,114]:List UInt8),([99,111,110,116,105,110,117,101]:List UInt8),([100,101,102,97,117,108,116]:List UInt8),([100,111]:List UInt8),([101,108,115,101]:List UInt8),([102,111,114]:List UInt8),([105,102]:List UInt8),([105,110]:List UInt8),([105,110,116]:List UInt8),([111,117,116]:List UInt8),([114,101,116,117,114,110]:List UInt8),([115,105,122,101,111,102]:List UInt8),([115,116,114,117,99,116]:List UInt8),([115,119,105,116,99,104]:List UInt8),([118,111,105,100]:List UInt8),([119,104,105,108,101]:List UInt8)]
def wordB(p:List UInt8):Bool:=words.any fun w=>decide (p=w)
theorem wd1(b:Bool)(X:Option Bool):(bif b then(bif b then some true else some false)else X)=bif b then some true else X:=by cases b<;>rfl
theorem wd3(b:Bool):(bif b then some true else some false)=some b:=by cases b<;>rfl
theorem wd4(b x:Bool):(bif b then some b else some x)=some (b||x):=by cases b<;>rfl
theorem X1z(p:List UInt8):Z1x p=some (wordB p):=by
 unfold Z1x wordB words
 simp only[jn,wd3,wd4,List.any_cons,List.any_nil,Bool.or_false]
theorem Y0p{b:List UInt8}{n:Nat}(h:n<=b.length):sub b (n:Int) (b.length:Int)=some (b.drop n):=by
 unfold sub;rw[if_pos (by omega)]
 simp
theorem Z1u{b:List UInt8}{n:Nat}(h:n<=b.length):sub b 0 (n:Int)=some (b.take n):=by
 unfold sub;rw[if_pos (by omega)]
 simp
theorem Y8w(s p:List UInt8):C5 s p=some (decide (p<+:s)):=by
 unfold C5 Q3q
 by_cases h:p.length<=s.length
 . rw[c1 (dt (by omega)),Z1u h,qV,qV]
   congr 1
   refine decide_eq_decide.2 ⟨fun e=>List.prefix_iff_eq_take.2 e.symm,fun e=>(List.prefix_iff_eq_take.1 e).symm⟩
 . rw[c0 (df (by omega)),df (fun e=>h e.length_le)]
   rfl
def blB(c:UInt8):Bool:=(c.toNat:Int)==32||(c.toNat:Int)==9||(c.toNat:Int)==10||(c.toNat:Int)==13
theorem X3b(c:UInt8):Z1w (c.toNat:Int)=some (blB c):=by
 unfold Z1w blB;cases((c.toNat:Int)==32)<;>cases((c.toNat:Int)==9)<;>cases((c.toNat:Int)==10)<;>rfl
theorem span_eq(l:List UInt8)(hl:l.length<4611686018427387904):Z7z l=some ((sp blB l:Nat):Int):=by
 unfold Z7z;refine X1h blB l hl (fun k hk=>?_) (by rw[c0 (dge _)]) rfl;rw[c1 (dlt hk),P6 hk,qV,X3b,qV];cases blB l[k]<;>rfl
def blS(s:List UInt8):Int:=
 if[47,47]<+:s then(if 0<=Go.Lib.index s [10]then Go.Lib.index s [10]else s.length)
 else if[47,42]<+:s then(if Go.Lib.index (s.drop 2) [42,47]<0 then -1 else Go.Lib.index (s.drop 2) [42,47]+4)else((sp blB s:Nat):Int)
theorem Y4h:∀(s sub:List UInt8),sub≠[]->0<=Go.Lib.index s sub->Go.Lib.index s sub+sub.length<=s.length
 |[],sub,hn,h=>by
  unfold Go.Lib.index at h
  rw[if_neg (by simpa using hn)]at h
  omega
 |b::l,sub,hn,h=>by
  unfold Go.Lib.index at h⊢
  by_cases h1:sub.isPrefixOf (b::l)=true
  . rw[if_pos h1]
    have:=(List.isPrefixOf_iff_prefix.1 h1).length_le
    omega
  . rw[if_neg h1]at h⊢
    by_cases h2:(Go.Lib.index l sub== -1)=true
    . rw[if_pos h2]at h;omega
    . rw[if_neg h2]at h⊢
      have hge:=Go.Lib.index_ge l sub
      have hne:Go.Lib.index l sub≠ -1:=by simpa using h2
      have:=Y4h l sub hn (by omega)
      simp
      omega
theorem Z5a(s:List UInt8)(hl:s.length<=100000):Z2z s=some (blS s)/\blS s<=s.length:=by
 have hi:=Go.Lib.index_le s [10];have hsp:=Z7k blB s;unfold Z2z blS;rw[Y8w,qV]
 by_cases h1:([47,47]:List UInt8)<+:s
 . rw[dt h1,cond_true,if_pos h1];unfold strings_Index;rw[if_pos (by omega),qV]
   by_cases h2:0<=Go.Lib.index s [10]
   . rw[c1 (dt h2),if_pos h2];exact⟨rfl,hi⟩
   . rw[c0 (df h2),if_neg h2];exact⟨rfl,by omega⟩
 . rw[df h1,cond_false,if_neg h1,Y8w,qV]
   by_cases h2:([47,42]:List UInt8)<+:s
   . have hl2:=h2.length_le;have hi2:=Go.Lib.index_le (s.drop 2) [42,47];have hd:(s.drop 2).length=s.length-2:=by simp
     simp at hl2
     rw[dt h2,cond_true,if_pos h2,show sub s 2 (s.length:Int)=some (s.drop 2)from Y0p hl2,qV];unfold strings_Index;rw[if_pos (by simp;omega),qV]
     by_cases h3:Go.Lib.index (s.drop 2) [42,47]<0
     . rw[c1 (dt h3),if_pos h3];exact⟨rfl,by omega⟩
     . rw[c0 (df h3),if_neg h3,w64 (by omega)];refine⟨rfl,?_⟩
       -- the instance lies within
       have:=Y4h (s.drop 2) [42,47] (by decide) (by omega)
       simp at this
       omega
   . rw[df h2,cond_false,if_neg h2,span_eq s (by omega),qV];exact⟨rfl,by omega⟩
def Z9w:Pos:=⟨0,0⟩
def tokZ:X5:=⟨0,[],0,Z9w⟩
def Sepr(r:List UInt8):Prop:=∀c,r.head?=some c->blB c=true
theorem sp_all(p:UInt8->Bool):∀(l r:List UInt8),(∀x∈l,p x=true)->(∀c,r.head?=some c->p c=false)->sp p (l++r)=l.length
 |[],[],_,_=>rfl
 |[],c::r,_,h=>by
  show sp p (c::r)=0
  unfold sp
  rw[if_neg (by simp[h c rfl])]
 |x::l,r,h1,h2=>by
  show sp p (x::(l++r))=l.length+1
  unfold sp
  rw[if_pos (h1 x (by simp)),sp_all p l r (fun y hy=>h1 y (by simp[hy])) h2]
theorem Y2d(p:UInt8->Bool)(l:List UInt8):∀x∈l.take (sp p l),p x=true:=by
 intro x hx;obtain⟨k,hk,rfl⟩:=List.getElem_of_mem hx;have hle:=Z7k p l;have hk2:k<sp p l:=by simp at hk;omega
 rw[List.getElem_take];exact X0d p l k hk2
theorem Z8p{c:UInt8}(h:blB c=true):Q1q c=false:=by
 have:∀n:_root_.Fin 256,blB (UInt8.ofNat n.val)=true->Q1q (UInt8.ofNat n.val)=false:=by decide+kernel
 have h2:=this ⟨c.toNat,c.toNat_lt⟩
 simp only[UInt8.ofNat_toNat]at h2
 exact h2 h
theorem Z7x{c:UInt8}(h:Q1q c=true):c≠10:=by
 rintro rfl
 revert h
 decide
theorem Y2e{l r:List UInt8}(h:∀x∈l,Q1q x=true)(hr:Sepr r):sp Q1q (l++r)=l.length:=sp_all _ l r h fun c hc=>Z8p (hr c hc)
structure Tok(t:X5)(s:List UInt8):Prop where
 pre:t.Text<+:s
 ne:t.Text≠[]
 pos:t.Pos=Z9w
 nl:∀x∈t.Text,x≠10
 again:∀r,Sepr r->(t.Text++r).length<=100000->Q0g (t.Text++r)=some (t,0)
 nu:0<=t.Num/\t.Num<4294967296
theorem Y8d(n:Int):∃w,Q6u n=some w:=by
 unfold Q6u;rw[Y1j,qV];cases digB n<;>cases decide (97<=n)<;>cases decide (n<=102)<;>cases decide (65<=n)<;>cases decide (n<=70)<;>exact⟨_,rfl⟩
def U32(n:Int):Prop:=0<=n/\n<4294967296
theorem Z9s(n:Int):U32 (qJ .u32 n):=by
 unfold U32
 simp only[qJ,IntKind.signed,IntKind.bits]
 simp
 omega
theorem Z5d:U32 0:=⟨by decide,by decide⟩
def numK(u1:List UInt8)(x1:List UInt8)(x2:Int):Option (X5×Int):=bif decide (x1=([]:List UInt8))then(some ((⟨0,([]:List UInt8),0,(⟨0,0⟩:Pos)⟩:X5),(3:Int)))else((W8 (qQ x1)).bind fun _=>(X8 (fun(x3,x4,x5)=>(bif decide (x5<(qQ (I6 x1):Int))then(jn (fun kk2=>(idx (I6 x1) x5).bind fun u4=>(Q6u u4).bind fun y4=>bif decide (x2<=y4)then(some (Lp.ret ((⟨0,([]:List UInt8),0,(⟨0,0⟩:Pos)⟩:X5),(3:Int))))else((Q6u u4).bind fun y5=>bif decide (4294967295<(qJ .u64 ((qJ .u64 (x3*x2))+y5)))then(kk2 (4294967295:Int) true)else(kk2 (qJ .u64 ((qJ .u64 (x3*x2))+y5)) x4))) (fun(x6:Int)(x7:Bool)=>some (Lp.go (x6,x7,qJ .i64 (x5+1)))))else(some (Lp.brk (x3,x4,x5))):Option (Lp (Int×Bool×Int) (X5×Int)))) NN (0,false,0)).bind fun o=>o.thn (fun(x3,x4,x5)=>bif x4 then(some ((⟨0,([]:List UInt8),0,(⟨0,0⟩:Pos)⟩:X5),(7:Int)))else(some ((⟨3,u1,qJ .u32 x3,(⟨0,0⟩:Pos)⟩:X5),(0:Int)))) (fun r=>some r))
def numT(u1:List UInt8):Option (X5×Int):=jn (fun kk1=>(C5 u1 ([48,120]:List UInt8)).bind fun y2=>bif y2 then((sub u1 2 (qQ u1:Int)).bind fun u3=>kk1 u3 (16:Int))else((C5 u1 ([48,88]:List UInt8)).bind fun y3=>bif y3 then((sub u1 2 (qQ u1:Int)).bind fun u2=>kk1 u2 (16:Int))else(kk1 u1 (10:Int)))) (numK u1)
theorem Z8s(s:List UInt8)(hl:s.length<=100000):Q9j s=numT (s.take (sp Q1q s)):=by
 unfold Q9j;refine bnd (Z7j s (by omega)) ?_;refine bnd (Z1u (Z7k _ _)) rfl
theorem Z9x(u x:List UInt8)(b:Int)(hl:x.length<=100000):∃y,numK u x b=some y/\(y.2=0->y.1.Text=u/\y.1.Pos=Z9w/\U32 y.1.Num):=by
 unfold numK
 by_cases hx:x=[]
 . rw[c1 (dt hx)];exact⟨_,rfl,fun h=>by cases h⟩
 rw[c0 (df hx),E1 (by omega),qV];have hsl:(I6 x).length=x.length:=by simp[I6]
 obtain⟨o,ho,hp⟩:=Q1n (R:=X5×Int) (body:=fun(x3,x4,x5)=>(bif decide (x5<(qQ (I6 x):Int))then(jn (fun kk2=>(idx (I6 x) x5).bind fun u4=>(Q6u u4).bind fun y4=>bif decide (b<=y4)then(some (Lp.ret ((⟨0,([]:List UInt8),0,(⟨0,0⟩:Pos)⟩:X5),(3:Int))))else((Q6u u4).bind fun y5=>bif decide (4294967295<(qJ .u64 ((qJ .u64 (x3*b))+y5)))then(kk2 (4294967295:Int) true)else(kk2 (qJ .u64 ((qJ .u64 (x3*b))+y5)) x4))) (fun(x6:Int)(x7:Bool)=>some (Lp.go (x6,x7,qJ .i64 (x5+1)))))else(some (Lp.brk (x3,x4,x5))):Option (Lp (Int×Bool×Int) (X5×Int))))
  (n:=NN) (s:=(0,false,0)) (fun s=>∃k:Nat,s.2.2=(k:Int)/\k<=x.length) (fun s=>x.length-s.2.2.toNat) (fun o=>(∃s,o= .brk s)\/o= .ret (tokZ,3)) ⟨0,rfl,by omega⟩ (Q7a (by dsimp only;omega)) (by
   rintro⟨a,f,i⟩ ⟨k,hk,hk2⟩
   dsimp only at hk⊢
   subst hk;rw[hsl]
   by_cases h:k<x.length
   . rw[c1 (dt (by omega))]
     simp only[jn]
     rw[P6 (by rw[hsl];exact h),qV];obtain⟨wv,hw⟩:=Y8d (I6 x)[k];rw[hw,qV,qV]
     by_cases h1:b<=wv
     . rw[c1 (dt h1)];exact⟨_,rfl,.inr rfl⟩
     . rw[c0 (df h1)];cases decide (4294967295<(qJ .u64 ((qJ .u64 (a*b))+wv)))<;>exact⟨_,rfl,⟨k+1,by dsimp only;rw[w64 (by omega)];omega,by omega⟩,by dsimp only;rw[w64 (by omega)];omega⟩
   . rw[c0 (df (by omega))];exact⟨_,rfl,.inl ⟨_,rfl⟩⟩)
 refine exb ho ?_
 rcases hp with⟨⟨a,f,i⟩,rfl⟩|rfl
 . dsimp only[Lp.thn]
   cases f with
   |true=>exact⟨_,rfl,fun h=>by cases h⟩
   |false=>exact⟨_,rfl,fun _=>⟨rfl,rfl,Z9s _⟩⟩
 . exact⟨_,rfl,fun h=>by cases h⟩
theorem X0k(u:List UInt8)(hl:u.length<=100000):∃y,numT u=some y/\(y.2=0->y.1.Text=u/\y.1.Pos=Z9w/\U32 y.1.Num):=by
 unfold numT
 simp only[jn]
 refine exb (Y8w _ _) ?_
 by_cases h1:([48,120]:List UInt8)<+:u
 . have:=h1.length_le
   simp at this
   rw[dt h1,cond_true];exact exb (Y0p (b:=u) (n:=2) this) (Z9x _ _ _ (by simp;omega))
 . rw[df h1,cond_false];refine exb (Y8w _ _) ?_
   by_cases h2:([48,88]:List UInt8)<+:u
   . have:=h2.length_le
     simp at this
     rw[dt h2,cond_true];exact exb (Y0p (b:=u) (n:=2) this) (Z9x _ _ _ (by simp;omega))
   . rw[df h2,cond_false];exact Z9x _ _ _ hl
def cBq(a b c:UInt8):Bool:=(c.toNat:Int)==39&&(decide (32<=(b.toNat:Int))&&(decide ((b.toNat:Int)<=126)&&((b.toNat:Int)!=39&&(b.toNat:Int)!=92)))
def c3(a b c:UInt8):X5×Int:=bif cBq a b c then(⟨3,[a,b,c],qJ .u32 (b.toNat:Int),Z9w⟩,0)else(tokZ,3)
theorem X2v(n:Int):∃y,Q9k n=some y:=by
 unfold Q9k jn;cases n==110<;>cases n==116<;>cases n==114<;>cases n==48<;>cases n==92<;>cases n==39<;>exact⟨_,rfl⟩
theorem Y4q(a b c:UInt8):Q2q [a,b,c]=some (c3 a b c):=by
 unfold Q2q c3 cBq;rw[c0 (by rfl),c1 (by rfl),show idx [a,b,c] 2=some c from rfl,show idx [a,b,c] 1=some b from rfl,show sub [a,b,c] 0 3=some [a,b,c]from rfl]
 simp only[qV]
 cases((c.toNat:Int)==39)<;>cases decide (32<=(b.toNat:Int))<;>cases decide ((b.toNat:Int)<=126)<;>cases((b.toNat:Int)!=39)<;>cases((b.toNat:Int)!=92)<;>rfl
theorem Y2b(a b c d:UInt8)(l:List UInt8):Q2q (a::b::c::d::l)=bif ((b.toNat:Int)==92&&(d.toNat:Int)==39)then(Q9k (c.toNat:Int)).bind (fun y=>bif y.2 then some ((⟨3,[a,b,c,d],qJ .u32 y.1,Z9w⟩:X5),(0:Int))else some (tokZ,3))else some (c3 a b c):=by
 have hl:(((a::b::c::d::l).length:Nat):Int)=l.length+4:=by simp;omega
 have hs4:sub (a::b::c::d::l) 0 4=some [a,b,c,d]:=by unfold sub;rw[if_pos (by omega)];rfl
 have hs3:sub (a::b::c::d::l) 0 3=some [a,b,c]:=by unfold sub;rw[if_pos (by omega)];rfl
 unfold Q2q c3 cBq;rw[hl,c1 (dt (show(4:Int)<=l.length+4 by omega)),show idx (a::b::c::d::l) 1=some b from rfl,show idx (a::b::c::d::l) 2=some c from rfl,show idx (a::b::c::d::l) 3=some d from rfl,hs4,hs3,dt (show(3:Int)<=l.length+4 by omega)]
 simp only[qV,cond_true]
 cases((b.toNat:Int)==92)<;>cases((d.toNat:Int)==39)<;>cases((c.toNat:Int)==39)<;>cases decide (32<=(b.toNat:Int))<;>cases decide ((b.toNat:Int)<=126)<;>cases((b.toNat:Int)!=39)<;>cases((b.toNat:Int)!=92)<;>rfl
theorem Y6g(s:List UInt8):∃y,Q2q s=some y/\(y.2=0->y.1.Text<+:s/\y.1.Text≠[]/\y.1.Pos=Z9w/\(∀x∈y.1.Text,x=s.headD 0\/x≠10)/\U32 y.1.Num/\∀r,Q2q (y.1.Text++r)=some (y.1,0)):=by
 have short:∀l:List UInt8,l.length<3->Q2q l=some (tokZ,3):=fun l h=>by
  unfold Q2q;rw[c0 (df (by omega)),c0 (df (by omega))]
  rfl
 have three:∀(a b c:UInt8)(l:List UInt8),(c3 a b c).2=0->(c3 a b c).1.Text=[a,b,c]/\(c3 a b c).1.Pos=Z9w/\b≠10/\c≠10/\U32 (c3 a b c).1.Num/\∀r,Q2q ([a,b,c]++r)=some ((c3 a b c).1,0):=by
  intro a b c l h
  have hb:cBq a b c=true:=by
   cases hh:cBq a b c with
   |true=>rfl
   |false=>unfold c3 at h;rw[hh]at h;cases h
  have hc3:c3 a b c=(⟨3,[a,b,c],qJ .u32 (b.toNat:Int),Z9w⟩,0):=by unfold c3;rw[hb];rfl
  have hb2:=hb;unfold cBq at hb2
  simp only[qM,beq_iff_eq,decide_eq_true_eq,bne_iff_ne]at hb2
  rw[hc3];refine⟨rfl,rfl,?_,?_,Z9s _,fun r=>?_⟩
  . rintro rfl;have:=hb2.2.1;simp at this
  . rintro rfl;have:=hb2.1;simp at this
  . cases r with
    |nil=>rw[jK,Y4q,hc3]
    |cons d r=>
     show Q2q (a::b::c::d::r)=_;rw[Y2b,c0 (by simp[hb2.2.2.2.2]),hc3]
 match s with
 |[]=>exact⟨_,short _ (by simp),fun h=>by cases h⟩
 |[a]=>exact⟨_,short _ (by simp),fun h=>by cases h⟩
 |[a,b]=>exact⟨_,short _ (by simp),fun h=>by cases h⟩
 |[a,b,c]=>
  refine⟨_,Y4q a b c,fun h=>?_⟩;obtain⟨e1,e2,e3,e4,e6,e5⟩:=three a b c [] h;rw[e1];refine⟨⟨[],rfl⟩,by simp,e2,fun x hx=>?_,e6,e5⟩
  simp only[qZ,List.not_mem_nil,or_false]at hx
  rcases hx with rfl|rfl|rfl
  . exact .inl rfl
  . exact .inr e3
  . exact .inr e4
 |a::b::c::d::l=>
  rw[Y2b];cases hbd:((b.toNat:Int)==92&&(d.toNat:Int)==39)with
  |false=>
   refine⟨_,rfl,fun h=>?_⟩;obtain⟨e1,e2,e3,e4,e6,e5⟩:=three a b c [] h;rw[e1];refine⟨⟨d::l,rfl⟩,by simp,e2,fun x hx=>?_,e6,e5⟩
   simp only[qZ,List.not_mem_nil,or_false]at hx
   rcases hx with rfl|rfl|rfl
   . exact .inl rfl
   . exact .inr e3
   . exact .inr e4
  |true=>
   rw[cond_true];obtain⟨⟨v,ok⟩,he⟩:=X2v (c.toNat:Int);refine exb he ?_;cases ok with
   |false=>exact⟨_,rfl,fun h=>by cases h⟩
   |true=>
    refine⟨_,rfl,fun _=>⟨⟨l,rfl⟩,by simp,rfl,fun x hx=>?_,Z9s _,fun r=>?_⟩⟩
    . dsimp only at hx
      simp only[qM,beq_iff_eq]at hbd
      simp only[qZ,List.not_mem_nil,or_false]at hx
      rcases hx with rfl|rfl|rfl|rfl
      . exact .inl rfl
      . right;rintro rfl;have:=hbd.1;simp at this
      . right
        rintro rfl;have:Q9k (((10:UInt8).toNat:Nat):Int)=some (0,false):=rfl;rw[this]at he;cases he
      . right;rintro rfl;have:=hbd.2;simp at this
    . show Q2q (a::b::c::d::r)=_;rw[Y2b,hbd,cond_true,he]
      rfl
def Z0h:List (List UInt8):=[([60,60,61]:List UInt8),([62,62,61]:List UInt8),([45,62]:List UInt8),([43,43]:List UInt8),([45,45]:List UInt8),([60,60]:List UInt8),([62,62]:List UInt8),([60,61]:List UInt8),([62,61]:List UInt8),([61,61]:List UInt8),([33,61]:List UInt8),([38,38]:List UInt8),([124,124]:List UInt8),([43,61]:List UInt8),([45,61]:List UInt8),([42,61]:List UInt8),([47,61]:List UInt8),([37,61]:List UInt8),([38,61]:List UInt8),([124,61]:List UInt8),([94,61]:List UInt8),([43]:List UInt8),([45]:List UInt8),([42]:List UInt8),([47]:List UInt8),([37]:List UInt8),([38]:List UInt8),([124]:List UInt8),([94]:List UInt8),([126]:List UInt8),([33]:List UInt8),([60]:List UInt8),([62]:List UInt8),([61]:List UInt8),([63]:List UInt8),([58]:List UInt8),([59]:List UInt8),([44]:List UInt8),([46]:List UInt8),([40]:List UInt8),([41]:List UInt8),([91]:List UInt8),([93]:List UInt8),([123]:List UInt8),([125]:List UInt8)]
def Z0i(s:List UInt8):List UInt8:=match Z0h.findIdx? (fun m=>decide (m<+:s))with
 |some k=>Z0h.getD k []
 |none=>[]
theorem Y2x(s:List UInt8):Z3f s=some (Z0i s):=by
 unfold Z3f Z0i;refine Y6a Z0h (fun m=>decide (m<+:s)) (fun k=>Z0h.getD k []) (by decide) (fun k hk=>?_) (by rfl) ?_
 . show(bif decide ((k:Int)<(Z0h.length:Int))then _ else _)=_;rw[c1 (dlt hk)];refine bnd (x:=Z0h[k]) (P6 hk) ?_;refine bnd (Y8w _ _) ?_;rw[show Z0h.getD k []=Z0h[k] by simp[hk]];cases decide (Z0h[k]<+:s)<;>rfl
 . cases Z0h.findIdx? _<;>rfl
theorem Y3z:∀m∈Z0h,m≠[]/\∀x∈m,blB x=false/\x≠10:=by decide+kernel
theorem Y7d{m t r:List UInt8}(hm:∀x∈m,blB x=false)(hr:Sepr r)(h:m<+:t++r):m<+:t:=by
 by_cases hl:m.length<=t.length
 . exact List.prefix_of_prefix_length_le h (List.prefix_append t r) hl
 . exfalso
   obtain⟨q,hq⟩:=h;have hlt:t.length<m.length:=by omega
   have h1:(m++q)[t.length]?=m[t.length]?:=kR hlt;rw[hq,List.getElem?_append_right (qD _),Nat.sub_self]at h1;rw[kM hlt]at h1;have h2:=hr m[t.length] (by rw[List.head?_eq_getElem?];exact h1);rw[hm _ (jT hlt)]at h2;cases h2
theorem X2k(s:List UInt8)(h:Z0i s≠[]):Z0i s<+:s/\(∀x∈Z0i s,blB x=false/\x≠10)/\∀r,Sepr r->Z0i (Z0i s++r)=Z0i s:=by
 cases hf:Z0h.findIdx? (fun m=>decide (m<+:s))with
 |none=>exact absurd (by unfold Z0i;rw[hf]) h
 |some k=>
  obtain⟨hk,hp,hlt⟩:=List.findIdx?_eq_some_iff_getElem.1 hf;have hmk:Z0i s=Z0h[k]:=by unfold Z0i;rw[hf];simp[hk]
  rw[hmk];have hp':Z0h[k]<+:s:=by simpa using hp
  refine⟨hp',(Y3z _ (jT hk)).2,fun r hr=>?_⟩
  have:Z0h.findIdx? (fun m=>decide (m<+:Z0h[k]++r))=some k:=by
   refine List.findIdx?_eq_some_iff_getElem.2 ⟨hk,by simp,fun j hj=>?_⟩;have hn:=hlt j hj;intro hc;have hc':Z0h[j]<+:Z0h[k]++r:=by simpa using hc
   have:=Y7d (fun x hx=>((Y3z _ (jT (Nat.lt_trans hj hk))).2 x hx).1) hr hc';exact absurd (this.trans hp') (by simpa using hn)
  unfold Z0i;rw[this]
  simp[hk]
theorem Z1d(s:List UInt8)(hs:s≠[])(hl:s.length<=100000):∃y,Q0g s=some y/\(y.2=0->Tok y.1 s):=by
 obtain⟨c,l,rfl⟩:∃c l,s=c::l:=by
  cases s with
  |nil=>exact absurd rfl hs
  |cons c l=>exact⟨c,l,rfl⟩
 have key:∀l',Q0g (c::l')=(bif letB (c.toNat:Int)then((Q7n (c::l')).bind fun y2=>(sub (c::l') 0 y2).bind fun u2=>bif decide (31<y2)then(some ((⟨1,u2,0,(⟨0,0⟩:Pos)⟩:X5),(2:Int)))else(jn (fun kk1=>(Z1x u2).bind fun y3=>bif y3 then(kk1 (⟨2,u2,0,(⟨0,0⟩:Pos)⟩:X5))else(kk1 (⟨1,u2,0,(⟨0,0⟩:Pos)⟩:X5))) (fun(x1:X5)=>some (x1,(0:Int)))))else(bif digB (c.toNat:Int)then((Q9j (c::l')).bind fun y5=>some (y5.1,y5.2))else(bif (UInt8.toNat c:Int)==39 then((Q2q (c::l')).bind fun y6=>some (y6.1,y6.2))else((Z3f (c::l')).bind fun y7=>bif decide (y7=([]:List UInt8))then(some ((⟨0,([]:List UInt8),0,(⟨0,0⟩:Pos)⟩:X5),(3:Int)))else(some ((⟨4,y7,0,(⟨0,0⟩:Pos)⟩:X5),(0:Int))))))):=fun l'=>by
  unfold Q0g;rw[show idx (c::l') 0=some c from rfl]
  simp only[qV,Y1z,Y1j]
 have hmore:letB (c.toNat:Int)=true\/digB (c.toNat:Int)=true->Q1q c=true:=fun h=>by
  unfold Q1q
  rcases h with h|h<;>rw[h]<;>simp
 have hsp1:Q1q c=true->1<=sp Q1q (c::l):=fun h=>by
  show 1<=(if Q1q c then sp Q1q l+1 else 0);rw[if_pos h];omega
 rw[key];cases hlet:letB (c.toNat:Int)with
 |true=>
  rw[cond_true];refine exb (Z7j _ (by omega)) ?_;refine exb (Z1u (Z7k _ _)) ?_;have h1:=hsp1 (hmore (.inl hlet));have hle:=Z7k Q1q (c::l);have hall:=Y2d Q1q (c::l)
  by_cases h31:(31:Int)<((sp Q1q (c::l):Nat):Int)
  . rw[c1 (dt h31)];exact⟨_,rfl,fun h=>by cases h⟩
  . rw[c0 (df h31)]
    simp only[jn]
    have hlen:((c::l).take (sp Q1q (c::l))).length=sp Q1q (c::l):=by rw[qE];omega
    have htc:∃q,(c::l).take (sp Q1q (c::l))=c::q:=by
     cases hn:sp Q1q (c::l)with
     |zero=>omega
     |succ m=>exact⟨_,rfl⟩
    have hpre:=List.take_prefix (sp Q1q (c::l)) (c::l)
    generalize(c::l).take (sp Q1q (c::l))=u at hall hlen htc hpre⊢
    obtain⟨q,rfl⟩:=htc
    have hag:∀r,Sepr r->((c::q)++r).length<=100000->Q0g ((c::q)++r)=(Z1x (c::q)).bind fun y3=>bif y3 then(some ((⟨2,c::q,0,(⟨0,0⟩:Pos)⟩:X5),(0:Int)))else(some ((⟨1,c::q,0,(⟨0,0⟩:Pos)⟩:X5),(0:Int))):=fun r hr hlr=>by
     have hsp:=Y2e hall hr;rw[jX,key,hlet,cond_true];refine bnd (Z7j _ (by rw[jX]at hlr;omega)) ?_;rw[<-jX,hsp];refine bnd (x:=c::q) ?_ ?_
     . rw[Z1u (by simp)];simp
     . rw[c0 (df (by rw[hlen];exact h31))]
       rfl
    rw[X1z,qV];rw[X1z]at hag;cases hw:wordB (c::q)with
    |true=>exact⟨_,rfl,fun _=>⟨hpre,by simp,rfl,fun x hx=>Z7x (hall x hx),fun r hr hlr=>by rw[show(⟨2,c::q,0,Z9w⟩:X5).Text=c::q from rfl,hag r hr hlr,hw];rfl,Z5d⟩⟩
    |false=>exact⟨_,rfl,fun _=>⟨hpre,by simp,rfl,fun x hx=>Z7x (hall x hx),fun r hr hlr=>by rw[show(⟨1,c::q,0,Z9w⟩:X5).Text=c::q from rfl,hag r hr hlr,hw];rfl,Z5d⟩⟩
 |false=>
  rw[cond_false];cases hdig:digB (c.toNat:Int)with
  |true=>
   rw[cond_true,Z8s _ hl];have h1:=hsp1 (hmore (.inr hdig));have hall:=Y2d Q1q (c::l);have hlen:((c::l).take (sp Q1q (c::l))).length=sp Q1q (c::l):=by have:=Z7k Q1q (c::l);rw[qE];omega
   have htc:∃q,(c::l).take (sp Q1q (c::l))=c::q:=by
    cases hn:sp Q1q (c::l)with
    |zero=>omega
    |succ m=>exact⟨_,rfl⟩
   have hpre:=List.take_prefix (sp Q1q (c::l)) (c::l)
   generalize(c::l).take (sp Q1q (c::l))=u at hall hlen htc hpre⊢
   obtain⟨q,rfl⟩:=htc;obtain⟨⟨t,e⟩,hy,hp⟩:=X0k (c::q) (jH hpre.length_le hl);refine exb hy ?_;refine⟨_,rfl,fun he=>?_⟩
   dsimp only at he hp
   obtain⟨e1,e2,e3⟩:=hp he;subst he;refine⟨by dsimp only;rw[e1];exact hpre,by dsimp only;rw[e1];simp,e2,fun x hx=>Z7x (hall x (by dsimp only at hx;rwa[e1]at hx)),fun r hr hlr=>?_,e3⟩
   dsimp only at hlr⊢
   rw[e1]at hlr⊢;rw[jX,key,hlet,cond_false,hdig,cond_true,<-jX,Z8s _ hlr,Y2e hall hr];rw[List.take_append_of_le_length (qD _),List.take_length,hy]
   rfl
  |false=>
   rw[cond_false];cases hq:((c.toNat:Int)==39)with
   |true=>
    rw[cond_true];obtain⟨⟨t,e⟩,hy,hp⟩:=Y6g (c::l);refine exb hy ?_;refine⟨_,rfl,fun he=>?_⟩
    dsimp only at he hp
    obtain⟨p1,p2,p3,p4,p6,p5⟩:=hp he;subst he;refine⟨p1,p2,p3,fun x hx=>?_,fun r hr hlr=>?_,p6⟩
    . rcases p4 x hx with h|h
      . rw[h];rintro h10;rw[show(c::l).headD 0=c from rfl]at h10;subst h10
        simp at hq
      . exact h
    . have hc:∃q,t.Text=c::q:=by
       obtain⟨z,hz⟩:=p1;cases htt:t.Text with
       |nil=>exact absurd htt p2
       |cons x q=>rw[htt]at hz;cases hz;exact⟨q,rfl⟩
      obtain⟨q,hq2⟩:=hc;have:=p5 r
      dsimp only at this⊢
      rw[hq2,jX]at this⊢;rw[key,hlet,cond_false,hdig,cond_false,hq,cond_true,this]
      rfl
   |false=>
    rw[cond_false];refine exb (Y2x _) ?_
    by_cases hm:Z0i (c::l)=[]
    . rw[c1 (dt hm)];exact⟨_,rfl,fun h=>by cases h⟩
    . rw[c0 (df hm)];obtain⟨p1,p2,p3⟩:=X2k _ hm;refine⟨_,rfl,fun _=>⟨p1,hm,rfl,fun x hx=>(p2 x hx).2,fun r hr hlr=>?_,Z5d⟩⟩
      dsimp only at hlr⊢
      have p3':=p3 r hr
      have hc:∃q,Z0i (c::l)=c::q:=by
       obtain⟨z,hz⟩:=p1;cases htt:Z0i (c::l)with
       |nil=>exact absurd htt hm
       |cons x q=>rw[htt]at hz;cases hz;exact⟨q,rfl⟩
      generalize Z0i (c::l)=mm at hc p3' hm hlr⊢
      obtain⟨q,rfl⟩:=hc;rw[jX]at p3'⊢;rw[key,hlet,cond_false,hdig,cond_false,hq,cond_false,Y2x,qV,p3',c0 (df hm)]
def Z0z(t:X5):X5:={t with Pos:=Z9w}
inductive Lx:List UInt8->List X5->Prop
 |nil:Lx [] []
 |blank {s:List UInt8} {ts:List X5} (h:s≠[]) (n:Nat) (hn:blS s=(n:Int)) (h0:0<n) (k:Lx (s.drop n) ts):Lx s ts
 |tok {s:List UInt8} {t:X5} {ts:List X5} (h:s≠[]) (hb:blS s=0) (ht:Q0g s=some (t,0)) (k:Lx (s.drop t.Text.length) ts):Lx s (t::ts)
def adv(p:Pos):List UInt8->Pos
 |[]=>p
 |c::l=>adv (if c=10 then⟨p.Line+1,1⟩else⟨p.Line,p.Col+1⟩) l
theorem X1y(p:Pos):∀(a b:List UInt8),adv p (a++b)=adv (adv p a) b:=by
 intro a
 induction a generalizing p with
 |nil=>intro b;rfl
 |cons c a ih=>intro b;exact ih _ b
def Pn(p:Pos):Prop:=p≠(⟨0,0⟩:Pos)
def outW:List UInt8:=[111,117,116]
structure Z6l(p:Pos)(m:Nat):Prop where
 l:1<=p.Line/\p.Line<=m
 c:0<=p.Col/\p.Col<=m
theorem Z6l.pn{p:Pos}{m:Nat}(h:Z6l p m):Pn p:=fun e=>by have:=h.l;rw[e]at this;exact absurd this.1 (by decide)
theorem Y0e{p:Pos}{m:Nat}(h:Z6l p m)(h1:1<=m):∀a:List UInt8,Z6l (adv p a) (m+a.length):=by
 intro a
 induction a generalizing p m with
 |nil=>exact h
 |cons c a ih=>
  have hl:=h.l;have hc:=h.c
  have:Z6l (if c=10 then⟨p.Line+1,1⟩else⟨p.Line,p.Col+1⟩) (m+1):=by
   split
   . exact⟨by dsimp only;omega,by dsimp only;omega⟩
   . exact⟨by dsimp only;omega,by dsimp only;omega⟩
  have:=ih this (by omega);rw[show m+(c::a).length=m+1+a.length by simp;omega];exact this
theorem X1j{s:List UInt8}{p:Pos}{m:Nat}(h:Z6l p m)(h1:1<=m)(hm:m+s.length<=1000000){n:Nat}(hn:n<=s.length):Q0n ⟨s,p⟩ (n:Int)=some ⟨s.drop n,adv p (s.take n)⟩:=by
 unfold Q0n
 dsimp only
 rw[Z1u hn,qV];have hlen:(s.take n).length=n:=by rw[qE];omega
 generalize hu:s.take n=u at hlen⊢
 rw[E1 (by omega),qV];have hsl:(I6 u).length=u.length:=by simp[I6]
 refine run_bind (fun k=>((k:Int),(⟨s,adv p (u.take k)⟩:N4))) u.length (.brk ((u.length:Int),⟨s,adv p u⟩)) rfl (by omega) (fun k hk=>?_) ?_ trivial ?_
 . dsimp only
   have hp:=Y0e h h1 (u.take k);have hl:=hp.l;have hc:=hp.c;have hkl:(u.take k).length=k:=by rw[qE];omega
   rw[hkl]at hl hc;rw[c1 (dt (by rw[hsl];omega))]
   simp only[jn]
   rw[P6 (by rw[hsl];exact hk),qV,List.take_succ_eq_append_getElem hk,X1y];have e:(I6 u)[k]'(by rw[hsl];exact hk)=(u[k].toNat:Int):=by simp[I6]
   rw[e,w64 (x:=(k:Int)+1) (by omega)]
   by_cases h10:u[k]=10
   . rw[c1 (by rw[h10];rfl),w64 (by omega)];show _=some (Lp.go (((k+1:Nat):Int),(⟨s,(if u[k]=10 then⟨(adv p (u.take k)).Line+1,1⟩else⟨(adv p (u.take k)).Line,(adv p (u.take k)).Col+1⟩)⟩:N4)));rw[if_pos h10]
     rfl
   . rw[c0 (by simp;intro hh;exact h10 (UInt8.toNat_inj.1 (by rw[show(10:UInt8).toNat=10 from rfl];omega))),w64 (by omega)];show _=some (Lp.go (((k+1:Nat):Int),(⟨s,(if u[k]=10 then⟨(adv p (u.take k)).Line+1,1⟩else⟨(adv p (u.take k)).Line,(adv p (u.take k)).Col+1⟩)⟩:N4)));rw[if_neg h10]
     rfl
 . dsimp only
   rw[hsl,c0 (dge _),List.take_length]
 . dsimp only[Lp.thn]
   rw[Y0p hn,qV]
def Q9a:List X5×N4->Option (Lp (List X5×N4) (List X5×Pos×Int)):=fun(x1,x2)=>(bif !(decide (x2.s=([]:List UInt8)))then((Z2z x2.s).bind fun y1=>bif decide (y1<0)then(some (Lp.ret ([],x2.pos,(3:Int))))else(bif decide (0<y1)then((Q0n x2 y1).bind fun y2=>some (Lp.go (x1,y2)))else((Q0g x2.s).bind fun y3=>bif y3.2 !=0 then(some (Lp.ret ([],x2.pos,y3.2)))else((W8 (qQ x1+qQ ([{y3.1 with Pos:=x2.pos}]:List X5))).bind fun _=>(Q0n x2 (qQ y3.1.Text:Int)).bind fun y4=>some (Lp.go (x1++([{y3.1 with Pos:=x2.pos}]:List X5),y4))))))else(some (Lp.brk (x1,x2))))
theorem Y0c{x1:List X5}{s:List UInt8}{p:Pos}{m:Nat}(h:Z6l p m)(h1:1<=m)(hm:m+s.length<=1000000)(hl:s.length<=100000)(hs:s≠[]){n:Nat}(hn:blS s=(n:Int))(h0:0<n):
 Q9a (x1,⟨s,p⟩)=some (.go (x1,⟨s.drop n,adv p (s.take n)⟩)):=by
 have hb:=Z5a s hl;unfold Q9a
 dsimp only
 rw[c1 (by simpa using hs)];refine bnd hb.1 ?_;rw[hn,c0 (df (by omega)),c1 (dt (by omega))];refine bnd (X1j h h1 hm (by omega)) rfl
theorem Y4v{x1:List X5}{s:List UInt8}{p:Pos}{m:Nat}(h:Z6l p m)(h1:1<=m)(hm:m+s.length<=1000000)(hl:s.length<=100000)(hx:x1.length<=1000000)(hs:s≠[])(hb:blS s=0){t:X5}(ht:Q0g s=some (t,0))(hpre:t.Text<+:s):
 Q9a (x1,⟨s,p⟩)=some (.go (x1++[{t with Pos:=p}],⟨s.drop t.Text.length,adv p t.Text⟩)):=by
 have hbe:=Z5a s hl;have htake:s.take t.Text.length=t.Text:=(List.prefix_iff_eq_take.1 hpre).symm;unfold Q9a
 dsimp only
 rw[c1 (by simpa using hs)];refine bnd hbe.1 ?_;rw[hb,c0 (df (by omega)),c0 (df (by omega))];refine bnd ht ?_;rw[c0 (by rfl),E1 (by simp;omega),qV];refine bnd (X1j h h1 hm hpre.length_le) ?_;rw[htake]
theorem Y4w{x1:List X5}{p:Pos}:Q9a (x1,⟨[],p⟩)=some (.brk (x1,⟨[],p⟩)):=rfl
theorem X0h:Z6l ⟨1,1⟩ 1:=⟨by decide,by decide⟩
theorem Y5z(s:List UInt8)(hl:s.length<=65536):∃y,Z0k s=some y/\((y.2.2=0/\Lx s (y.1.map Z0z)/\(∀t∈y.1,Pn t.Pos)/\Pn y.2.1)\/(y.2.2≠0/\y.1=[])):=by
 unfold Z0k;rw[c0 (df (by omega))]
 obtain⟨o,ho,hp⟩:=Q1n (R:=List X5×Pos×Int) (body:=Q9a) (n:=NN) (s:=([],(⟨s,(⟨1,1⟩:Pos)⟩:N4)))
  (fun x=>x.2.s.length<=s.length/\Z6l x.2.pos (1+(s.length-x.2.s.length))/\x.1.length+x.2.s.length<=s.length/\(∀t∈x.1,Pn t.Pos)/\∀ts,Lx x.2.s ts->Lx s (x.1.map Z0z++ts)) (fun x=>x.2.s.length)
  (fun o=>(∃q p,o= .brk (q,⟨[],p⟩)/\Lx s (q.map Z0z)/\(∀t∈q,Pn t.Pos)/\Pn p)\/∃p e,o= .ret ([],p,e)/\e≠0)
  ⟨qD _,by dsimp only;rw[Nat.sub_self];exact X0h,by simp,by simp,fun ts h=>h⟩ (Q7a (by dsimp only;omega)) (by
   rintro⟨x1,⟨u,p⟩⟩ ⟨h1,h2,h3,h5,h4⟩
   dsimp only at h1 h2 h3 h4 h5⊢
   by_cases hu:u=[]
   . subst hu;exact⟨_,Y4w,.inl ⟨x1,p,rfl,by have:=h4 [] .nil;rwa[jK]at this,h5,h2.pn⟩⟩
   . have hb:=Z5a u (by omega)
     by_cases hneg:blS u<0
     . refine⟨.ret ([],p,3),?_,.inr ⟨p,3,rfl,by decide⟩⟩;unfold Q9a
       dsimp only
       rw[c1 (by simpa using hu)];refine bnd hb.1 ?_;rw[c1 (dt hneg)]
     . by_cases hpos:0<blS u
       . obtain⟨n,hn⟩:=jR (show 0<=blS u by omega);have htk:(u.take n).length=n:=by rw[qE];omega
         refine⟨_,Y0c h2 (by omega) (by omega) (by omega) hu hn (by omega),⟨by dsimp only;rw[List.length_drop];omega,?_,by dsimp only;rw[List.length_drop];omega,h5,fun ts hts=>h4 ts (.blank hu n hn (by omega) hts)⟩,by dsimp only;rw[List.length_drop];omega⟩;have:=Y0e h2 (by omega) (u.take n)
         dsimp only
         rw[List.length_drop,show 1+(s.length-(u.length-n))=1+(s.length-u.length)+(u.take n).length by omega];exact this
       . have hz:blS u=0:=by omega
         obtain⟨⟨t,e⟩,hy,hT⟩:=Z1d u hu (by omega)
         by_cases he:e=0
         . subst he;have hT:Tok t u:=hT rfl;have hpl:=hT.pre.length_le;have hne:1<=t.Text.length:=List.length_pos_iff.2 hT.ne;refine⟨_,Y4v h2 (by omega) (by omega) (by omega) (by omega) hu hz hy hT.pre,⟨by dsimp only;rw[List.length_drop];omega,?_,by dsimp only;rw[List.length_drop];simp;omega,by intro z hz;rcases jQ.1 hz with hz|hz;exact h5 z hz;rw[kQ.1 hz];exact h2.pn,fun ts hts=>?_⟩,by dsimp only;rw[List.length_drop];omega⟩
           . have:=Y0e h2 (by omega) t.Text
             dsimp only
             rw[List.length_drop,show 1+(s.length-(u.length-t.Text.length))=1+(s.length-u.length)+t.Text.length by omega];exact this
           . have:=h4 (t::ts) (.tok hu hz hy hts)
             dsimp only
             rw[List.map_append,qS]
             have hst:Z0z {t with Pos:=p}=t:=by
              have:=hT.pos;obtain⟨a,b,c,d⟩:=t
              dsimp only at this
              subst this
              rfl
             rw[show List.map Z0z [{t with Pos:=p}]=[t] by rw[List.map_cons,hst];rfl];exact this
         . refine⟨.ret ([],p,e),?_,.inr ⟨p,e,rfl,he⟩⟩;unfold Q9a
           dsimp only
           rw[c1 (by simpa using hu)];refine bnd hb.1 ?_;rw[c0 (df hneg),c0 (df hpos)];refine bnd hy ?_;rw[c1 (by simpa using he)])
 refine exb ho ?_
 rcases hp with⟨q,p,rfl,hL⟩|⟨p,e,rfl,he⟩
 . exact⟨_,rfl,.inl ⟨rfl,hL⟩⟩
 . exact⟨_,rfl,.inr ⟨he,rfl⟩⟩
theorem lz{t:X5}{l:List X5}:((qQ (t::l):Int)==0)=false:=beq_eq_false_iff_ne.2 (by simp only[qY];omega)
theorem Y0v(t:X5)(l:List X5)(e:Pos)(d:Int):K6 ⟨t::l,e,d⟩=some t.Pos:=by
 unfold K6;rw[c0 lz]
 rfl
theorem Y4a{t:X5}{l:List X5}{e:Pos}{d:Int}(h:t.Kind=4):E6 ⟨t::l,e,d⟩=some t.Text:=by
 unfold E6;rw[c0 lz];refine bnd (x:=t) rfl ?_;rw[c0 (by rw[h];rfl)]
 rfl
theorem Z8t{t:X5}{l:List X5}{e:Pos}{d:Int}(h:t.Kind≠4):E6 ⟨t::l,e,d⟩=some []:=by
 unfold E6;rw[c0 lz];refine bnd (x:=t) rfl ?_;rw[c1 (by simpa using h)]
theorem is_hit{t:X5}{l:List X5}{e:Pos}{d:Int}{m:List UInt8}(h:t.Text=m)(hk:t.Kind=2\/t.Kind=4):V0 ⟨t::l,e,d⟩ m=some true:=by
 unfold V0 P5;rw[c1 (dt (by simp only[qY];omega))];refine bnd (x:=true) (bnd (x:=t) rfl ?_) rfl;rw[c1 (dt h)];refine bnd (x:=t) rfl ?_
 rcases hk with hk|hk
 . rw[c1 (by rw[hk];rfl)]
 . rw[c0 (by rw[hk];rfl)];refine bnd (x:=t) rfl ?_;rw[hk];rfl
theorem is_miss{t:X5}{l:List X5}{e:Pos}{d:Int}{m:List UInt8}(h:t.Text≠m):V0 ⟨t::l,e,d⟩ m=some false:=by
 unfold V0 P5;rw[c1 (dt (by simp only[qY];omega))];refine bnd (x:=false) (bnd (x:=t) rfl ?_) rfl;rw[c0 (df h)]
theorem Q8s{α:Type}(t:α)(l:List α):sub (t::l) 1 (qQ (t::l):Int)=some l:=by
 unfold sub;rw[if_pos (by simp only[qY];omega)]
 simp
theorem take_hit{t:X5}{l:List X5}{e:Pos}{d:Int}{m:List UInt8}(h:t.Text=m)(hk:t.Kind=2\/t.Kind=4):Y9 ⟨t::l,e,d⟩ m=some (true,⟨l,e,d⟩):=by
 unfold Y9;refine bnd (is_hit h hk) ?_;refine(c0 (by rfl)).trans ?_;exact bnd (Q8s t l) rfl
theorem Y4f{t:X5}{l:List X5}{e:Pos}{d k:Int}(h:t.Kind=k):D9 ⟨t::l,e,d⟩ k=some (.ok (t,⟨l,e,d⟩)):=by
 unfold D9 jn
 dsimp only
 rw[c0 lz];refine bnd (x:=t) rfl ?_;rw[c0 (by rw[h];exact bne_self_eq_false k)];refine bnd (x:=t) rfl ?_;exact bnd (Q8s t l) rfl
theorem X2w{l:List X5}{e:Pos}{d:Int}(h0:0<=d)(h:d<200):F0 ⟨l,e,d⟩=some (.ok ⟨l,e,d+1⟩):=by
 unfold F0 jn
 dsimp only
 rw[c0 (beq_eq_false_iff_ne.2 (by omega)),w64 (by omega)]
def ps(b:UInt8)(c:Nat):Nat->List X5
 |0=>[]
 |a+1=>⟨4,[b],0,⟨1,(c:Int)⟩⟩::ps b (c+1) a
def wE:Y2->Nat
 |⟨a,b,c,d,e,f,ks⟩=>1+f.Stars.toNat+(ks.attach.map fun k=>wE k.1).sum
termination_by x=>SizeOf.sizeOf x
decreasing_by
 have:=List.sizeOf_lt_of_mem k.2
 simp only[Y2.mk.sizeOf_spec]
 omega
def sm{α:Type}(w:α->Nat)(l:List α):Nat:=(l.map w).sum
theorem Y8e(x:Y2):wE x=1+x.Type_.Stars.toNat+sm wE x.Kids:=by
 obtain⟨a,b,c,d,e,f,ks⟩:=x;rw[wE]
 simp[sm]
def wV(v:G9):Nat:=1+v.Type_.Stars.toNat+v.Dims.length+sm wE v.Init
def wS:E0->Nat
 |⟨a,b,c,d,e,f,bs,es,cs⟩=>1+sm wE c+sm wE d+sm wE e+sm wV f+(bs.attach.map fun k=>wS k.1).sum+(es.attach.map fun k=>wS k.1).sum+(cs.attach.map fun c=>1+(c.1.Body.attach.map fun k=>wS k.1).sum).sum
termination_by x=>SizeOf.sizeOf x
decreasing_by
 . have:=List.sizeOf_lt_of_mem k.2
   simp only[E0.mk.sizeOf_spec]
   omega
 . have:=List.sizeOf_lt_of_mem k.2
   simp only[E0.mk.sizeOf_spec]
   omega
 . have h1:=List.sizeOf_lt_of_mem k.2
   have h2:=List.sizeOf_lt_of_mem c.2
   obtain⟨⟨c1,c2,c3,c4⟩,hc⟩:=c
   simp only[X0x.mk.sizeOf_spec]at h2
   simp only[E0.mk.sizeOf_spec]
   dsimp only at h1
   omega
def wC(c:Q1d):Nat:=1+sm wS c.Body
theorem Z9j(x:E0):wS x=1+sm wE x.A+sm wE x.B+sm wE x.C+sm wV x.Var+sm wS x.Body+sm wS x.Else+sm wC x.Cases:=by
 obtain⟨a,b,c,d,e,f,bs,es,cs⟩:=x;rw[wS]
 simp[sm]
 rfl
def wT(s:Q2n):Nat:=1+sm wV s.Fields
def wF(f:I1):Nat:=1+f.Ret.Stars.toNat+sm wV f.Params+sm wS f.Body
def wP(p:K1):Nat:=sm wT p.Structs+sm wV p.Globals+sm wF p.Funcs
theorem Q7b{α:Type}(w:α->Nat)(x:α)(l:List α):sm w (x::l)=w x+sm w l:=by simp[sm]
theorem Q2a{α:Type}(w:α->Nat)(a b:List α):sm w (a++b)=sm w a+sm w b:=by simp[sm]
theorem S7{α:Type}{w:α->Nat}(hw:∀x,1<=w x):∀l:List α,l.length<=sm w l
 |[]=>kX _
 |x::l=>by rw[Q7b,qY];have:=S7 hw l;have:=hw x;omega
theorem Q2u(x:Y2):1<=wE x:=by rw[Y8e];omega
theorem Z2h(x:G9):1<=wV x:=by unfold wV;omega
theorem Z7e(x:E0):1<=wS x:=by rw[Z9j];omega
theorem wC_pos(x:Q1d):1<=wC x:=by unfold wC;omega
theorem Y3f(x:Q2n):1<=wT x:=by unfold wT;omega
theorem Y1o(x:I1):1<=wF x:=by unfold wF;omega
def OkT(t:F9):Prop:=t.Word.length<=70000/\t.Name.length<=70000/\t.Stars<=1000000
def Z2g(k:Int):Nat:=if k=3\/k=9\/k=10\/k=11 then 1 else if k=4\/k=5\/k=8 then 2 else if k=6 then 3 else 0
def Ex(k:Int)(p:Pos)(o n:List UInt8)(m:Nat):Prop:=Pn p/\(k=7->n=outW->1<=m)/\(k=5->o≠[])
theorem Ex.of{k:Int}{p:Pos}{o n:List UInt8}{m:Nat}(hp:Pn p)(h7:k≠7)(h5:k≠5):Ex k p o n m:=⟨hp,fun h=>absurd h h7,fun h=>absurd h h5⟩
def Sa(k:Int)(a v:Nat):Prop:=((k=1\/k=3\/k=4\/k=5\/k=7)->1<=a)/\(k=2->1<=v)
inductive OkE:Y2->Prop
 |mk {x:Y2} (kids:∀k∈x.Kids,OkE k) (name:x.Name.length<=70000) (op:x.Op.length<=70000) (ty:OkT x.Type_) (ar:Z2g x.Kind<=x.Kids.length) (ex:Ex x.Kind x.Pos x.Op x.Name x.Kids.length) (nu:U32 x.Num):OkE x
structure OkV(v:G9):Prop where
 name:v.Name.length<=70000
 ty:OkT v.Type_
 init:∀x∈v.Init,OkE x
 pos:Pn v.Pos
 br:v.Brace=false->v.Init.length<=1
inductive OkS:E0->Prop
 |mk {x:E0} (a:∀y∈x.A,OkE y) (b:∀y∈x.B,OkE y) (c:∀y∈x.C,OkE y) (v:∀y∈x.Var,OkV y) (s:∀y∈x.Body,OkS y) (e:∀y∈x.Else,OkS y) (d:∀c∈x.Cases,∀y∈c.Body,OkS y) (sp:Pn x.Pos) (sa:Sa x.Kind x.A.length x.Var.length) (cp:∀c∈x.Cases,Pn c.Pos):OkS x
structure OkF(f:I1):Prop where
 name:f.Name.length<=70000
 ty:OkT f.Ret
 ps:∀v∈f.Params,OkV v
 body:∀x∈f.Body,OkS x
 pos:Pn f.Pos
structure OkP(p:K1):Prop where
 s:∀s∈p.Structs,s.Name.length<=70000/\(∀v∈s.Fields,OkV v)/\Pn s.Pos
 g:∀v∈p.Globals,OkV v
 f:∀f∈p.Funcs,OkF f
structure Af(r r':Z0)(k:Nat):Prop where
 len:r'.l.length+k<=r.l.length
 tk:∀t∈r'.l,t∈r.l
 d:r'.depth=r.depth
 en:r'.end_=r.end_
theorem Af.refl(r:Z0):Af r r 0:=⟨qD _,fun _ h=>h,rfl,rfl⟩
theorem Af.trans{a b c:Z0}{j k:Nat}(h:Af a b j)(g:Af b c k):Af a c (j+k):=⟨by have:=h.len;have:=g.len;omega,fun t ht=>h.tk t (g.tk t ht),g.d.trans h.d,g.en.trans h.en⟩
theorem Af.mono{a b:Z0}{j k:Nat}(h:Af a b j)(hk:k<=j):Af a b k:=⟨by have:=h.len;omega,h.tk,h.d,h.en⟩
structure Rd(r:Z0):Prop where
 tx:∀t∈r.l,t.Text.length<=70000
 len:r.l.length<=5000
 d:0<=r.depth/\r.depth<=200
 tp:∀t∈r.l,Pn t.Pos
 te:Pn r.end_
 tn:∀t∈r.l,t.Kind=1->t.Text≠outW
 tu:∀t∈r.l,U32 t.Num
theorem Rd.after{r r':Z0}{k:Nat}(h:Rd r)(g:Af r r' k):Rd r':=⟨fun t ht=>h.tx t (g.tk t ht),by have:=g.len;have:=h.len;omega,by rw[g.d];exact h.d,fun t ht=>h.tp t (g.tk t ht),by rw[g.en];exact h.te,fun t ht=>h.tn t (g.tk t ht),fun t ht=>h.tu t (g.tk t ht)⟩
def Ok{E A:Type}(y:Option (Except E A))(p:A->Prop):Prop:=∃z,y=some z/\match z with
 | .error _=>True
 | .ok x=>p x
theorem Ok.ok{E A:Type}{x:A}{p:A->Prop}(h:p x):Ok (some (qX (ε:=E) x)) p:=⟨_,rfl,h⟩
theorem Ok.err{E A:Type}{e:E}{p:A->Prop}:Ok (some (qK (α:=A) e)) p:=⟨_,rfl,trivial⟩
theorem Ok.mono{E A:Type}{y:Option (Except E A)}{p q:A->Prop}(h:Ok y p)(hpq:∀x,p x->q x):Ok y q:=by
 obtain⟨z,e,hz⟩:=h;refine⟨z,e,?_⟩;cases z with
 |error _=>trivial
 |ok x=>exact hpq x hz
theorem Ok.bind{E E' A B:Type}{y:Option (Except E A)}{p:A->Prop}{f:A->Option (Except E' B)}{g:E->E'}{q:B->Prop}(h:Ok y p)(hf:∀x,p x->Ok (f x) q):Ok (y.bind fun z=>exC z (fun z=>f z) (fun e=>some (qK (g e)))) q:=by
 obtain⟨z,e,hz⟩:=h;rw[e,qV];cases z with
 |error e=>exact⟨_,rfl,trivial⟩
 |ok x=>exact hf x hz
theorem Ok.step{E A B:Type}{m:Option B}{x:B}{f:B->Option (Except E A)}{q:A->Prop}(h:m=some x)(k:Ok (f x) q):Ok (m.bind f) q:=by subst h;exact k
theorem Q9n(r:Z0)(m:List UInt8):∃b,V0 r m=some b/\(b=true->∃t l,r.l=t::l/\t.Text=m/\(t.Kind=2\/t.Kind=4)):=by
 obtain⟨l,e,d⟩:=r;cases l with
 |nil=>exact⟨false,rfl,fun h=>by cases h⟩
 |cons t l=>
  by_cases h:t.Text=m
  . by_cases hk:t.Kind=2\/t.Kind=4
    . exact⟨true,is_hit h hk,fun _=>⟨t,l,rfl,h,hk⟩⟩
    . refine⟨false,?_,fun h=>by cases h⟩;unfold V0 P5;rw[c1 (dt (by simp only[qY];omega))];refine bnd (x:=false) (bnd (x:=t) rfl ?_) rfl;rw[c1 (dt h)];refine bnd (x:=t) rfl ?_;rw[c0 (by simp;exact fun h=>hk (.inl h))];refine bnd (x:=t) rfl ?_
      congr 1
      simp
      exact fun h=>hk (.inr h)
  . exact⟨false,is_miss h,fun h=>by cases h⟩
theorem C2(r:Z0)(m:List UInt8):∃b r',Y9 r m=some (b,r')/\Af r r' (cond b 1 0):=by
 obtain⟨b,e,hb⟩:=Q9n r m;cases b with
 |true=>
  obtain⟨t,l,hl,ht,hk⟩:=hb rfl;obtain⟨rl,re,rd⟩:=r
  dsimp only at hl
  subst hl;exact⟨true,_,take_hit ht hk,by simp,fun x hx=>List.mem_cons_of_mem _ hx,rfl,rfl⟩
 |false=>
  refine⟨false,r,?_,Af.refl r⟩;unfold Y9;exact bnd e rfl
theorem pos_any(r:Z0):∃p,K6 r=some p:=by
 obtain⟨l,e,d⟩:=r;cases l with
 |nil=>exact⟨e,rfl⟩
 |cons t l=>exact⟨_,Y0v t l e d⟩
theorem Z5j{r:Z0}(hr:Rd r):∃p,K6 r=some p/\Pn p:=by
 obtain⟨l,e,d⟩:=r;cases l with
 |nil=>exact⟨e,rfl,hr.te⟩
 |cons t l=>exact⟨_,Y0v t l e d,hr.tp t (by simp)⟩
theorem Z3k(r:Z0)(k:Int):∃e,W3 r k=some (.error e):=by
 obtain⟨p,hp⟩:=pos_any r;exact⟨_,bnd hp rfl⟩
theorem N3(r:Z0)(m:List UInt8):Ok (Y7 r m) (fun r'=>Af r r' 1):=by
 obtain⟨b,r',e,h⟩:=C2 r m;unfold Y7;refine Ok.step e ?_;cases b with
 |true=>exact Ok.ok h
 |false=>
  obtain⟨x,hx⟩:=Z3k r' 3;exact Ok.step hx Ok.err
theorem Z8h(r:Z0)(k:Int):Ok (D9 r k) (fun x=>(x.1∈r.l/\x.1.Kind=k)/\Af r x.2 1):=by
 obtain⟨l,e,d⟩:=r;cases l with
 |nil=>
  unfold D9 jn
  dsimp only
  obtain⟨x,hx⟩:=Z3k ⟨[],e,d⟩ 3;rw[c1 (show((qQ ([]:List X5):Int)==0)=true from rfl)];exact Ok.step hx Ok.err
 |cons t l=>
  by_cases h:t.Kind=k
  . rw[Y4f h];exact Ok.ok ⟨⟨by simp,h⟩,by simp,fun x hx=>List.mem_cons_of_mem _ hx,rfl,rfl⟩
  . unfold D9 jn
    dsimp only
    rw[c0 lz];refine Ok.step (x:=t) rfl ?_;rw[c1 (by simpa using h)];obtain⟨x,hx⟩:=Z3k ⟨t::l,e,d⟩ 3;exact Ok.step hx Ok.err
theorem Q8t{r:Z0}(hr:Rd r):Ok (V6 r) (fun x=>x.1.length<=70000/\Af r x.2 1/\x.1≠outW):=by
 unfold V6;exact(Z8h r 1).bind fun x hx=>Ok.ok ⟨hr.tx _ hx.1.1,hx.2,hr.tn _ hx.1.1 hx.1.2⟩
theorem Z5s{r:Z0}(hr:Rd r):Ok (F0 r) (fun r'=>r'.l=r.l/\r'.depth=r.depth+1/\r.depth<200/\r'.end_=r.end_):=by
 obtain⟨l,e,d⟩:=r;have hd:=hr.d
 dsimp only at hd
 by_cases h:d=200
 . subst h;unfold F0 jn
   dsimp only
   rw[c1 (show((200:Int)==200)=true from rfl)];obtain⟨x,hx⟩:=Z3k ⟨l,e,200⟩ 2;exact Ok.step hx Ok.err
 . rw[X2w hd.1 (by omega)];exact Ok.ok ⟨rfl,rfl,by dsimp only;omega,rfl⟩
theorem Z4n{r:Z0}(hr:Rd r):∃m,E6 r=some m/\m.length<=70000/\(m≠[]->r.l≠[]):=by
 obtain⟨l,e,d⟩:=r;cases l with
 |nil=>exact⟨[],rfl,by simp,fun h=>absurd rfl h⟩
 |cons t l=>
  by_cases h:t.Kind=4
  . exact⟨_,Y4a h,hr.tx t (by simp),fun _=>by simp⟩
  . exact⟨_,Z8t h,by simp,fun _=>by simp⟩
theorem Q6f{r:Z0}(hr:Rd r)(k:Int)(hl:r.l≠[]):∃p o r',K0 r k=some (⟨k,p,o,[],0,⟨[],[],0⟩,[]⟩,r')/\o.length<=70000/\Af r r' 1/\Pn p/\E6 r=some o:=by
 obtain⟨l,e,d⟩:=r;cases l with
 |nil=>exact absurd rfl hl
 |cons t l=>
  obtain⟨m,hm,hml,_⟩:=Z4n hr;refine⟨t.Pos,m,⟨l,e,d⟩,?_,hml,⟨by simp,fun x hx=>List.mem_cons_of_mem _ hx,rfl,rfl⟩,hr.tp t (by simp),hm⟩;unfold K0;exact bnd (Y0v t l e d) (bnd hm (bnd (Q8s t l) rfl))
def Rn{Z:Type}(y:Option Z)(P:Z->Prop):Prop:=∃z,y=some z/\P z
theorem Rn.ok{Z:Type}{z:Z}{P:Z->Prop}(h:P z):Rn (some z) P:=⟨z,rfl,h⟩
theorem Rn.step{Z B:Type}{m:Option B}{x:B}{f:B->Option Z}{P:Z->Prop}(h:m=some x)(k:Rn (f x) P):Rn (m.bind f) P:=by subst h;exact k
theorem Rn.bind{E A S R:Type}{y:Option (Except E A)}{p:A->Prop}{f:A->Option (Lp S R)}{g:E->R}{P:Lp S R->Prop}(h:Ok y p)(hf:∀x,p x->Rn (f x) P)(hg:∀e,P (.ret (g e))):Rn (y.bind fun z=>exC z (fun z=>f z) (fun e=>some (Lp.ret (g e)))) P:=by
 obtain⟨z,ez,hz⟩:=h;rw[ez,qV];cases z with
 |error x=>exact⟨_,rfl,hg x⟩
 |ok x=>exact hf x hz
def NxR{S R E A:Type}(I:S->Prop)(μ:S->Nat)(s:S)(f:Lp S R->Option (Except E A))(q:A->Prop):Lp S R->Prop
 | .go s'=>I s'/\μ s'<μ s
 | .brk s'=>Ok (f (.brk s')) q
 | .ret r=>Ok (f (.ret r)) q
theorem Ok.loop{S R E A:Type}{body:S->Option (Lp S R)}{f:Lp S R->Option (Except E A)}{q:A->Prop}{s:S}(I:S->Prop)(μ:S->Nat)(hI:I s)(hn:μ s<1000000)(hs:∀s,I s->Rn (body s) (NxR I μ s f q)):Ok ((X8 body NN s).bind f) q:=by
 obtain⟨o,ho,hp⟩:=Q1n I μ (fun o=>Ok (f o) q) hI (Q7a (by omega)) (fun s h=>by
  obtain⟨z,e,hz⟩:=hs s h;exact⟨z,e,by cases z<;>exact hz⟩)
 exact Ok.step ho hp
theorem Y5m(r:Z0):∃b,R5 r=some b/\(b=true->r.l≠[]):=by
 have ne:∀{m:List UInt8}{b:Bool},(b=true->∃t l,r.l=t::l/\t.Text=m/\(t.Kind=2\/t.Kind=4))->b=true->r.l≠[]:=by
  intro m b h hb;obtain⟨t,l,e,_⟩:=h hb;rw[e];simp
 unfold R5;obtain⟨b1,e1,h1⟩:=Q9n r [105,110,116];rw[e1,qV];cases b1 with
 |true=>exact⟨true,rfl,ne h1⟩
 |false=>
  obtain⟨b2,e2,h2⟩:=Q9n r [99,104,97,114];refine(c0 (by rfl)).symm▸?_;rw[e2,qV];cases b2 with
  |true=>exact⟨true,rfl,ne h2⟩
  |false=>
   obtain⟨b3,e3,h3⟩:=Q9n r [118,111,105,100];refine(c0 (by rfl)).symm▸?_;rw[e3,qV];cases b3 with
   |true=>exact⟨true,rfl,ne h3⟩
   |false=>
    obtain⟨b4,e4,h4⟩:=Q9n r [115,116,114,117,99,116];exact⟨b4,bnd e4 rfl,ne h4⟩
theorem Q8b{r:Z0}(hr:Rd r):Ok (U6 r) (fun x=>OkT x.1/\Af r x.2 (1+x.1.Stars.toNat)):=by
 obtain⟨l,e,d⟩:=r;unfold U6
 dsimp only[jn]
 obtain⟨b,eb,hb⟩:=Y5m ⟨l,e,d⟩;rw[eb,qV];cases b with
 |false=>
  obtain⟨x,hx⟩:=Z3k ⟨l,e,d⟩ 3;exact Ok.step hx Ok.err
 |true=>
  cases l with
  |nil=>exact absurd rfl (hb rfl)
  |cons t l=>
   have hl:=hr.len
   simp only[qY]at hl
   have ht:=hr.tx t (by simp);have h1:Af ⟨t::l,e,d⟩ ⟨l,e,d⟩ 1:=⟨by simp,fun x hx=>List.mem_cons_of_mem _ hx,rfl,rfl⟩
   have key:∀(x1:F9)(x2:Z0),x1.Word.length<=70000->x1.Name.length<=70000->x1.Stars=0->Af ⟨t::l,e,d⟩ x2 1->
    Ok ((X8 (fun(x3,x4)=>((Y9 x4 ([42]:List UInt8)).bind fun y4=>bif y4.1 then(some (Lp.go ({x3 with Stars:=qJ .i64 (x3.Stars+1)},y4.2)))else(some (Lp.brk (x3,y4.2))):Option (Lp (F9×Z0) (Unit)))) NN (x1,x2)).bind fun o=>o.thn (fun(x3,x4)=>some (qX (ε:=Z6×Z0) (x3,x4))) (fun _=>none)) (fun x=>OkT x.1/\Af ⟨t::l,e,d⟩ x.2 (1+x.1.Stars.toNat)):=by
    intro x1 x2 hw hn hs ha;refine Ok.loop (fun s=>s.1.Word.length<=70000/\s.1.Name.length<=70000/\0<=s.1.Stars/\Af ⟨t::l,e,d⟩ s.2 (1+s.1.Stars.toNat)) (fun s=>s.2.l.length) ⟨hw,hn,by dsimp only;omega,by dsimp only;rw[hs];exact ha⟩ (by have:=ha.len;simp only[qY]at this;dsimp only;omega) ?_;rintro⟨x3,x4⟩ ⟨i1,i2,i3,i4⟩
    dsimp only at i1 i2 i3 i4⊢
    have i4l:=i4.len
    simp only[qY]at i4l
    obtain⟨b,r',eb,hb⟩:=C2 x4 [42];refine Rn.step eb ?_;cases b with
    |true=>
     have hbl:=hb.len
     dsimp only[cond_true]at hbl
     refine Rn.ok ⟨⟨i1,i2,?_,?_⟩,by dsimp only;omega⟩
     . dsimp only
       rw[w64 (by omega)];omega
     . dsimp only
       rw[w64 (by omega)];refine(i4.trans hb).mono ?_
       dsimp only[cond_true]
       omega
    |false=>
     refine Rn.ok (Ok.ok ⟨⟨i1,i2,by dsimp only;omega⟩,(i4.trans hb).mono (by dsimp only;omega)⟩)
   refine(c0 (by rfl)).symm▸?_;refine Ok.step (x:=t) rfl ?_;refine Ok.step (Q8s t l) ?_
   by_cases hst:t.Text=[115,116,114,117,99,116]
   . rw[c1 (dt hst)];refine(Q8t (hr.after h1)).bind fun x hx=>key _ _ ht hx.1 rfl ((h1.trans hx.2.1).mono (by omega))
   . rw[c0 (df hst)];exact key _ _ ht (by simp) rfl h1
theorem Y9e{r:Z0}(hr:Rd r):Ok (W4 r) (fun x=>Af r x.2 x.1.length):=by
 unfold W4;refine Ok.loop (fun s=>Af r s.2 s.1.length) (fun s=>s.2.l.length) ((Af.refl r).mono (by simp)) (by have:=hr.len;dsimp only;omega) ?_;rintro⟨x1,x2⟩ h
 dsimp only at h⊢
 have hl:=hr.len;have h2:=h.len;obtain⟨b,r1,eb,hb⟩:=C2 x2 [91];refine Rn.step eb ?_;cases b with
 |false=>exact Rn.ok (Ok.ok ((h.trans hb).mono (by dsimp only;omega)))
 |true=>
  dsimp only[cond_true]at hb⊢
  refine Rn.bind (Z8h r1 3) (fun x hx=>?_) (fun e=>Ok.err);refine Rn.step (E1 (by simp;omega)) ?_;refine Rn.bind (N3 x.2 [93]) (fun y hy=>?_) (fun e=>Ok.err);have ha:=((h.trans hb).trans hx.2).trans hy;have:=hb.len;have:=hx.2.len;have:=hy.len;refine Rn.ok ⟨ha.mono (by simp),by dsimp only;omega⟩
def PE(r:Z0)(x:Y2×Z0):Prop:=OkE x.1/\Af r x.2 (wE x.1)
def PL(r:Z0)(k:Nat)(x:List Y2×Z0):Prop:=(∀y∈x.1,OkE y)/\Af r x.2 (sm wE x.1+k)
def PL1(r:Z0)(k:Nat)(x:List Y2×Z0):Prop:=PL r k x/\1<=x.1.length
structure S1(n:Nat):Prop where
 bracketed:∀r,Rd r->10*r.l.length+1<=n->Ok ((C6 n).U2 r) (PL1 r 2)
 handed:∀r,Rd r->10*r.l.length+1<=n->Ok ((C6 n).J6 r) (PL r 2)
 prime:∀r,Rd r->10*r.l.length+1<=n->Ok ((C6 n).P4 r) (PE r)
 post:∀r,Rd r->10*r.l.length+2<=n->Ok ((C6 n).D8 r) (PE r)
 unary:∀r,Rd r->10*r.l.length+3<=n->Ok ((C6 n).J8 r) (PE r)
 binary:∀r k,Rd r->10*r.l.length+4<=n->Ok ((C6 n).G3 r k) (PE r)
 cond:∀r,Rd r->10*r.l.length+5<=n->Ok ((C6 n).E7 r) (PE r)
 assign:∀r,Rd r->10*r.l.length+6<=n->Ok ((C6 n).X6 r) (PE r)
theorem Rd.down{r r':Z0}(hr:Rd r)(h:r'.l=r.l/\r'.depth=r.depth+1/\r.depth<200/\r'.end_=r.end_):Rd r':=⟨by rw[h.1];exact hr.tx,by rw[h.1];exact hr.len,by have:=hr.d;omega,by rw[h.1];exact hr.tp,by rw[h.2.2.2];exact hr.te,by rw[h.1];exact hr.tn,by rw[h.1];exact hr.tu⟩
theorem Af.up{r r' s:Z0}{k:Nat}(hr:Rd r)(h:r'.l=r.l/\r'.depth=r.depth+1/\r.depth<200/\r'.end_=r.end_)(g:Af r' s k):Af r {s with depth:=qJ .i64 (s.depth-1)} k:=by
 have hd:=hr.d;have gd:=g.d;refine⟨by have:=g.len;rw[h.1]at this;exact this,fun t ht=>by have:=g.tk t ht;rw[h.1]at this;exact this,?_,g.en.trans h.2.2.2⟩
 dsimp only
 rw[w64 (by omega)];omega
theorem okT0:OkT ⟨[],[],0⟩:=⟨by simp,by simp,by decide⟩
theorem Y2t{k:Int}{p:Pos}{o n:List UInt8}{m:Int}{ks:List Y2}(hk:∀y∈ks,OkE y)(ho:o.length<=70000)(hn:n.length<=70000)(ha:Z2g k<=ks.length)(hx:Ex k p o n ks.length)(hm:U32 m:=by exact Z5d):OkE ⟨k,p,o,n,m,⟨[],[],0⟩,ks⟩:= .mk hk hn ho okT0 ha hx hm
theorem wEk{k:Int}{p:Pos}{o n:List UInt8}{m:Int}{ks:List Y2}:wE ⟨k,p,o,n,m,⟨[],[],0⟩,ks⟩=1+sm wE ks:=by rw[Y8e];rfl
theorem sm1(x:Y2):sm wE [x]=wE x:=by simp[sm]
theorem sm2(x y:Y2):sm wE [x,y]=wE x+wE y:=by simp[sm]
theorem sm3(x y z:Y2):sm wE [x,y,z]=wE x+wE y+wE z:=by simp[sm];omega
theorem Y9p{n:Nat}(h:S1 n):∀r,Rd r->10*r.l.length+1<=n+1->Ok ((C6 (n+1)).U2 r) (PL1 r 2):=by
 intro r hr hn;show Ok (M8 (C6 n) r) _;unfold M8;refine(N3 r _).bind fun y1 a1=>?_;have:=a1.len;refine(h.assign y1 (hr.after a1) (by omega)).bind fun y2 a2=>?_;refine(N3 y2.2 _).bind fun y3 a3=>?_;exact Ok.ok ⟨⟨by simpa using a2.1,((a1.trans a2.2).trans a3).mono (by dsimp only;rw[sm1];omega)⟩,qD 1⟩
theorem handed_s{n:Nat}(h:S1 n):∀r,Rd r->10*r.l.length+1<=n+1->Ok ((C6 (n+1)).J6 r) (PL r 2):=by
 intro r hr hn;show Ok (L2 (C6 n) r) _;unfold L2;refine(N3 r _).bind fun y1 a1=>?_;have l1:=a1.len;have lr:=hr.len;obtain⟨b,y2,e2,a2⟩:=C2 y1 [41];refine Ok.step e2 ?_;cases b with
 |true=>exact Ok.ok ⟨by simp,(a1.trans a2).mono (by simp[sm])⟩
 |false=>
  have a12:=(a1.trans a2).mono (k:=1) (by simp);have l2:=a12.len;refine(h.assign y2 (hr.after a12) (by omega)).bind fun y3 a3=>?_;have a13:=a12.trans a3.2;refine Ok.loop (fun s=>(∀y∈s.1,OkE y)/\Af r s.2 (1+sm wE s.1)) (fun s=>s.2.l.length) ⟨by simpa using a3.1,by dsimp only;rw[sm1];exact a13⟩ (by have:=a13.len;dsimp only;omega) ?_;rintro⟨x1,x2⟩ ⟨i1,i2⟩
  dsimp only at i1 i2⊢
  have li:=i2.len;have hx:=S7 Q2u x1;obtain⟨b,y4,e4,a4⟩:=C2 x2 [44];refine Rn.step e4 ?_;cases b with
  |false=>
   refine Rn.ok ?_;refine(N3 y4 _).bind fun y6 a6=>Ok.ok ⟨i1,((i2.trans a4).trans a6).mono (by simp;omega)⟩
  |true=>
   have a24:=i2.trans a4;have l4:=a4.len
   dsimp only[cond_true]at l4 a24
   refine Rn.bind (h.assign y4 (hr.after a24) (by omega)) (fun y5 a5=>?_) (fun e=>Ok.err);refine Rn.step (E1 (by simp;omega)) ?_;have l5:=a5.2.len;refine Rn.ok ⟨⟨?_,(a24.trans a5.2).mono (by dsimp only;rw[Q2a,sm1];omega)⟩,by dsimp only;omega⟩;intro y hy
   rcases jQ.1 hy with hy|hy
   . exact i1 y hy
   . have:y=y5.1:=by simpa using hy
     rw[this];exact a5.1
theorem assign_s{n:Nat}(h:S1 n):∀r,Rd r->10*r.l.length+6<=n+1->Ok ((C6 (n+1)).X6 r) (PE r):=by
 intro r hr hn;show Ok (L4 (C6 n) r) _;unfold L4;refine(Z5s hr).bind fun y1 d1=>?_;have hr1:=hr.down d1;refine Ok.bind (g:=fun e:Z6×Z0=>(e.1,{e.2 with depth:=qJ .i64 (e.2.depth-1)})) (h.cond y1 hr1 (by rw[d1.1];omega)) fun y2 a2=>?_;have hr2:=hr1.after a2.2;obtain⟨m,em,hm,hne⟩:=Z4n hr2;refine Ok.step em ?_
 obtain⟨b,eb,hb⟩:∃b,Q8c m=some b/\(b=true->m≠[]):=by
  by_cases h0:m=[]
  . subst h0;exact⟨false,rfl,fun h=>by cases h⟩
  . have:∃b,Q8c m=some b:=by
     unfold Q8c
     dsimp only[jn]
     have key:∀b:Bool,∃c,(bif b then some true else some false)=some c:=fun b=>by cases b<;>exact⟨_,rfl⟩
     iterate 10 (first|exact key _|(refine(Bool.rec (motive:=fun c=>∃d,(bif c then _ else _)=some d) ?_ ?_ _)<;>dsimp only[cond_true,cond_false]))
     all_goals exact key _
    obtain⟨b,hb⟩:=this;exact⟨b,hb,fun _=>h0⟩
 refine Ok.step eb ?_;cases b with
 |false=>exact Ok.ok ⟨a2.1,Af.up hr d1 a2.2⟩
 |true=>
  obtain⟨p,o,y5,e5,ho,a5,pp,pm⟩:=Q6f hr2 5 (hne (hb rfl));refine Ok.step e5 ?_;have l2:=a2.2.len;have l5:=a5.len;rw[d1.1]at l2;refine Ok.bind (g:=fun e:Z6×Z0=>(e.1,{e.2 with depth:=qJ .i64 (e.2.depth-1)})) (h.assign y5 (hr2.after a5) (by omega)) fun y6 a6=>?_;refine Ok.ok ⟨Y2t (by simp[a2.1,a6.1]) ho (by simp) (show Z2g 5<=2 by decide) (show Ex 5 p o [] 2 from⟨pp,fun e=>absurd e (by decide),fun _ e0=>(hb rfl) (Option.some.inj (em.symm.trans (pm.trans (by rw[e0]))))⟩),?_⟩;have:=Af.up hr d1 ((a2.2.trans a5).trans a6.2);refine this.mono ?_
  dsimp only
  rw[wEk,sm2];omega
theorem rank_any(m:List UInt8):∃k,Z2w m=some k/\(k≠0->m≠[]):=by
 by_cases h:m=[]
 . subst h;exact⟨0,rfl,fun h=>absurd rfl h⟩
 . have:∃k,Z2w m=some k:=by
    unfold Z2w
    dsimp only[jn]
    cases decide (m=([124,124]:List UInt8))
    case true=>exact⟨_,rfl⟩
    cases decide (m=([38,38]:List UInt8))
    case true=>exact⟨_,rfl⟩
    cases decide (m=([124]:List UInt8))
    case true=>exact⟨_,rfl⟩
    cases decide (m=([94]:List UInt8))
    case true=>exact⟨_,rfl⟩
    cases decide (m=([38]:List UInt8))
    case true=>exact⟨_,rfl⟩
    cases decide (m=([61,61]:List UInt8))
    case true=>exact⟨_,rfl⟩
    cases decide (m=([33,61]:List UInt8))
    case true=>exact⟨_,rfl⟩
    cases decide (m=([60]:List UInt8))
    case true=>exact⟨_,rfl⟩
    cases decide (m=([62]:List UInt8))
    case true=>exact⟨_,rfl⟩
    cases decide (m=([60,61]:List UInt8))
    case true=>exact⟨_,rfl⟩
    cases decide (m=([62,61]:List UInt8))
    case true=>exact⟨_,rfl⟩
    cases decide (m=([60,60]:List UInt8))
    case true=>exact⟨_,rfl⟩
    cases decide (m=([62,62]:List UInt8))
    case true=>exact⟨_,rfl⟩
    cases decide (m=([43]:List UInt8))
    case true=>exact⟨_,rfl⟩
    cases decide (m=([45]:List UInt8))
    case true=>exact⟨_,rfl⟩
    cases decide (m=([42]:List UInt8))
    case true=>exact⟨_,rfl⟩
    cases decide (m=([47]:List UInt8))
    case true=>exact⟨_,rfl⟩
    cases decide (m=([37]:List UInt8))<;>exact⟨_,rfl⟩
   obtain⟨k,hk⟩:=this;exact⟨k,hk,fun _=>h⟩
theorem cond_s{n:Nat}(h:S1 n):∀r,Rd r->10*r.l.length+5<=n+1->Ok ((C6 (n+1)).E7 r) (PE r):=by
 intro r hr hn;show Ok (S0 (C6 n) r) _;unfold S0;refine(h.binary r 1 hr (by omega)).bind fun y1 a1=>?_;have hr1:=hr.after a1.2;obtain⟨m,em,hm,hne⟩:=Z4n hr1;refine Ok.step em ?_
 by_cases h63:m=[63]
 . rw[c0 (by rw[dt h63];rfl)];obtain⟨p,o,y3,e3,ho,a3,pp,pm⟩:=Q6f hr1 6 (hne (by rw[h63];simp));refine Ok.step e3 ?_;have l1:=a1.2.len;have l3:=a3.len;have a13:=a1.2.trans a3;refine(h.assign y3 (hr1.after a3) (by omega)).bind fun y4 a4=>?_;have a14:=a13.trans a4.2;refine(N3 y4.2 _).bind fun y5 a5=>?_;have a15:=a14.trans a5;have hr5:=hr.after a15;have l5:=a15.len;refine(Z5s hr5).bind fun y6 d6=>?_;have hr6:=hr5.down d6;refine(h.cond y6 hr6 (by rw[d6.1];omega)).bind fun y7 a7=>?_;have a57:=Af.up hr5 d6 a7.2;refine Ok.step (x:={y7.2 with depth:=qJ .i64 (y7.2.depth-1)}) rfl ?_;refine Ok.ok ⟨Y2t (by simp[a1.1,a4.1,a7.1]) (by simp) (by simp) (show Z2g 6<=3 by decide) (Ex.of (k:=6) pp (by decide) (by decide)),(a15.trans a57).mono ?_⟩
   dsimp only
   rw[wEk,sm3];omega
 . rw[c1 (by rw[df h63];rfl)];exact Ok.ok a1
theorem binary_s{n:Nat}(h:S1 n):∀r k,Rd r->10*r.l.length+4<=n+1->Ok ((C6 (n+1)).G3 r k) (PE r):=by
 intro r k hr hn;show Ok (L3 (C6 n) r k) _;unfold L3;have lr:=hr.len;refine(h.unary r hr (by omega)).bind fun y1 a1=>?_;refine Ok.loop (fun s=>PE r s) (fun s=>s.2.l.length) a1 (by have:=a1.2.len;dsimp only;omega) ?_;rintro⟨x1,x2⟩ hp;have li:=hp.2.len
 dsimp only at li
 have hr2:=hr.after hp.2;obtain⟨m,em,hm,hne⟩:=Z4n hr2;obtain⟨q,eq,hq⟩:=rank_any m
 dsimp only at em⊢
 refine Rn.step em ?_;refine Rn.step eq ?_
 by_cases h1:q<k
 . rw[c1 (dt h1)];exact Rn.ok (Ok.ok hp)
 rw[c0 (df h1)]
 by_cases h2:q=0
 . rw[c1 (by rw[h2];rfl)];exact Rn.ok (Ok.ok hp)
 rw[c0 (by simpa using h2)];obtain⟨p,o,y4,e4,ho,a4,pp,pm⟩:=Q6f hr2 4 (hne (hq h2));refine Rn.step e4 ?_;have a24:=hp.2.trans a4;have l4:=a4.len
 dsimp only at l4
 refine Rn.bind (h.binary y4 _ (hr.after a24) (by omega)) (fun y5 a5=>?_) (fun e=>Ok.err);have l5:=a5.2.len;refine Rn.ok ⟨⟨Y2t (by simp[hp.1,a5.1]) ho (by simp) (show Z2g 4<=2 by decide) (Ex.of (k:=4) pp (by decide) (by decide)),(a24.trans a5.2).mono ?_⟩,by dsimp only;omega⟩
 dsimp only
 rw[wEk,sm2];omega
theorem post_s{n:Nat}(h:S1 n):∀r,Rd r->10*r.l.length+2<=n+1->Ok ((C6 (n+1)).D8 r) (PE r):=by
 intro r hr hn;show Ok (R7 (C6 n) r) _;unfold R7;have lr:=hr.len;refine(h.prime r hr (by omega)).bind fun y1 a1=>?_;refine Ok.loop (fun s=>PE r s) (fun s=>s.2.l.length) a1 (by have:=a1.2.len;dsimp only;omega) ?_;rintro⟨x1,x2⟩ hp;have li:=hp.2.len
 dsimp only at li
 have hr2:=hr.after hp.2;have hx1:=Q2u x1;obtain⟨m,em,hm,hne⟩:=Z4n hr2
 dsimp only[jn]at em⊢
 refine Rn.step em ?_
 by_cases h1:m=[91]
 . rw[c1 (dt h1)];obtain⟨p,o,y3,e3,ho,a3,pp,pm⟩:=Q6f hr2 8 (hne (by rw[h1];simp));refine Rn.step e3 ?_;have a23:=hp.2.trans a3;have l3:=a3.len
   dsimp only at l3
   refine Rn.bind (h.assign y3 (hr.after a23) (by omega)) (fun y4 a4=>?_) (fun e=>Ok.err);refine Rn.bind (N3 y4.2 _) (fun y5 a5=>?_) (fun e=>Ok.err);have l4:=a4.2.len;have l5:=a5.len;refine Rn.ok ⟨⟨Y2t (by simp[hp.1,a4.1]) (by simp) (by simp) (show Z2g 8<=2 by decide) (Ex.of (k:=8) pp (by decide) (by decide)),((a23.trans a4.2).trans a5).mono ?_⟩,by dsimp only;omega⟩
   dsimp only
   rw[wEk,sm2];omega
 rw[c0 (df h1)]
 have dot:m≠[]->Rn ((K0 x2 9).bind fun y6=>(V6 y6.2).bind fun y7=>exL y7 (fun y7=>some (Lp.go (({y6.1 with Name:=y7.1,Kids:=([x1]:List Y2)}:Y2),y7.2)))) (NxR (fun s=>PE r s) (fun s=>s.2.l.length) (x1,x2) (fun o=>o.thn (fun(x1,x2)=>none) (fun r=>some r)) (PE r)):=by
  intro hm;obtain⟨p,o,y6,e6,ho,a6,pp,pm⟩:=Q6f hr2 9 (hne hm);refine Rn.step e6 ?_;have a26:=hp.2.trans a6;refine Rn.bind (Q8t (hr.after a26)) (fun y7 a7=>?_) (fun e=>Ok.err);have l6:=a6.len;have l7:=a7.2.1.len
  dsimp only at l6 l7
  refine Rn.ok ⟨⟨Y2t (by simp[hp.1]) ho a7.1 (show Z2g 9<=1 by decide) (Ex.of (k:=9) pp (by decide) (by decide)),(a26.trans a7.2.1).mono ?_⟩,by dsimp only;omega⟩
  dsimp only
  rw[wEk,sm1];omega
 have inc:m≠[]->Rn ((K0 x2 11).bind fun y8=>some (Lp.go (({y8.1 with Kids:=([x1]:List Y2)}:Y2),y8.2))) (NxR (R:=Except (Z6×Z0) (Y2×Z0)) (fun s=>PE r s) (fun s=>s.2.l.length) (x1,x2) (fun o=>o.thn (fun(x1,x2)=>none) (fun r=>some r)) (PE r)):=by
  intro hm;obtain⟨p,o,y8,e8,ho,a8,pp,pm⟩:=Q6f hr2 11 (hne hm);refine Rn.step e8 ?_;have l8:=a8.len
  dsimp only at l8
  refine Rn.ok ⟨⟨Y2t (by simp[hp.1]) ho (by simp) (show Z2g 11<=1 by decide) (Ex.of (k:=11) pp (by decide) (by decide)),(hp.2.trans a8).mono ?_⟩,by dsimp only;omega⟩
  dsimp only
  rw[wEk,sm1];omega
 by_cases h2:m=[46]
 . rw[c1 (dt h2),c1 (dt h2)];exact dot (by rw[h2];simp)
 rw[c0 (df h2)]
 by_cases h3:m=[45,62]
 . rw[c1 (dt h3)];exact dot (by rw[h3];simp)
 rw[c0 (df h3)]
 by_cases h4:m=[43,43]
 . rw[c1 (dt h4),c1 (dt h4)];exact inc (by rw[h4];simp)
 rw[c0 (df h4)]
 by_cases h5:m=[45,45]
 . rw[c1 (dt h5)];exact inc (by rw[h5];simp)
 rw[c0 (df h5)];exact Rn.ok (Ok.ok hp)
theorem unary_s{n:Nat}(h:S1 n):∀r,Rd r->10*r.l.length+3<=n+1->Ok ((C6 (n+1)).J8 r) (PE r):=by
 intro r hr hn;show Ok (N1 (C6 n) r) _;unfold N1;refine(Z5s hr).bind fun y1 d1=>?_;have hr1:=hr.down d1;obtain⟨m,em,hm,hne⟩:=Z4n hr1;refine Ok.step em ?_
 dsimp only[jn]
 have l1:y1.l.length=r.l.length:=by rw[d1.1]
 have op:∀k:Int,(Z2g k<=1/\k≠7/\k≠5)->m≠[]->Ok ((K0 y1 k).bind fun y3=>((C6 n).J8 y3.2).bind fun y4=>exC y4 (fun y4=>some (qX (ε:=Z6×Z0) (({y3.1 with Kids:=([y4.1]:List Y2)}:Y2),{y4.2 with depth:=qJ .i64 (y4.2.depth-1)}))) (fun e1=>some (qK (e1.1,{e1.2 with depth:=qJ .i64 (e1.2.depth-1)})))) (PE r):=by
  intro k hk hm;obtain⟨p,o,y3,e3,ho,a3,pp,pm⟩:=Q6f hr1 k (hne hm);refine Ok.step e3 ?_;have l3:=a3.len;refine Ok.bind (g:=fun e:Z6×Z0=>(e.1,{e.2 with depth:=qJ .i64 (e.2.depth-1)})) (h.unary y3 (hr1.after a3) (by omega)) fun y4 a4=>?_;refine Ok.ok ⟨Y2t (by simp[a4.1]) ho (by simp) hk.1 (Ex.of pp hk.2.1 hk.2.2),(Af.up hr d1 (a3.trans a4.2)).mono ?_⟩
  dsimp only
  rw[wEk,sm1];omega
 have rest:Ok ((K6 y1).bind fun y7=>(Y9 y1 ([115,105,122,101,111,102]:List UInt8)).bind fun y8=>bif y8.1 then((Y7 y8.2 ([40]:List UInt8)).bind fun y9=>exC y9 (fun y9=>(U6 y9).bind fun y10=>exC y10 (fun y10=>(Y7 y10.2 ([41]:List UInt8)).bind fun y11=>exC y11 (fun y11=>some (qX (ε:=Z6×Z0) ((⟨12,y7,([]:List UInt8),([]:List UInt8),0,y10.1,[]⟩:Y2),{y11 with depth:=qJ .i64 (y11.depth-1)}))) (fun e4=>some (qK (e4.1,{e4.2 with depth:=qJ .i64 (e4.2.depth-1)})))) (fun e3=>some (qK (e3.1,{e3.2 with depth:=qJ .i64 (e3.2.depth-1)})))) (fun e5=>some (qK (e5.1,{e5.2 with depth:=qJ .i64 (e5.2.depth-1)}))))else(((C6 n).D8 y8.2).bind fun y12=>exC y12 (fun y12=>some (qX (y12.1,{y12.2 with depth:=qJ .i64 (y12.2.depth-1)}))) (fun e6=>some (qK (e6.1,{e6.2 with depth:=qJ .i64 (e6.2.depth-1)}))))) (PE r):=by
  obtain⟨p,ep,pz⟩:=Z5j hr1;refine Ok.step ep ?_;obtain⟨b,y8,e8,a8⟩:=C2 y1 [115,105,122,101,111,102];refine Ok.step e8 ?_;have hr8:=hr1.after a8;have l8:=a8.len
  let g:Z6×Z0->Z6×Z0:=fun e=>(e.1,{e.2 with depth:=qJ .i64 (e.2.depth-1)})
  cases b with
  |true=>
   refine Ok.bind (g:=g) (N3 y8 _) fun y9 a9=>?_;refine Ok.bind (g:=g) (Q8b (hr8.after a9)) fun y10 a10=>?_;refine Ok.bind (g:=g) (N3 y10.2 _) fun y11 a11=>?_;refine Ok.ok ⟨.mk (by simp) (by simp) (by simp) a10.1 (show Z2g 12<=0 by decide) (Ex.of (k:=12) pz (by decide) (by decide)) Z5d,(Af.up hr d1 (((a8.trans a9).trans a10.2).trans a11)).mono ?_⟩;rw[Y8e]
   simp[sm]
   omega
  |false=>
   refine Ok.bind (g:=g) (h.post y8 hr8 (by omega)) fun y12 a12=>?_;exact Ok.ok ⟨a12.1,(Af.up hr d1 (a8.trans a12.2)).mono (by dsimp only;omega)⟩
 by_cases h1:m=[45]
 . rw[c1 (dt h1),c1 (dt h1)];exact op 3 (by decide) (by rw[h1];simp)
 rw[c0 (df h1)]
 by_cases h2:m=[126]
 . rw[c1 (dt h2),c1 (dt h2)];exact op 3 (by decide) (by rw[h2];simp)
 rw[c0 (df h2)]
 by_cases h3:m=[33]
 . rw[c1 (dt h3),c1 (dt h3)];exact op 3 (by decide) (by rw[h3];simp)
 rw[c0 (df h3)]
 by_cases h4:m=[42]
 . rw[c1 (dt h4),c1 (dt h4)];exact op 3 (by decide) (by rw[h4];simp)
 rw[c0 (df h4)]
 by_cases h5:m=[38]
 . rw[c1 (dt h5)];exact op 3 (by decide) (by rw[h5];simp)
 rw[c0 (df h5)]
 by_cases h6:m=[43,43]
 . rw[c1 (dt h6),c1 (dt h6)];exact op 10 (by decide) (by rw[h6];simp)
 rw[c0 (df h6)]
 by_cases h7:m=[45,45]
 . rw[c1 (dt h7)];exact op 10 (by decide) (by rw[h7];simp)
 rw[c0 (df h7)];exact rest
theorem prime_s{n:Nat}(h:S1 n):∀r,Rd r->10*r.l.length+1<=n+1->Ok ((C6 (n+1)).P4 r) (PE r):=by
 intro r hr hn;show Ok (M9 (C6 n) r) _;unfold M9;obtain⟨p,ep,pz⟩:=Z5j hr;refine Ok.step ep ?_
 dsimp only[jn]
 have lr:=hr.len;obtain⟨b,y2,e2,a2⟩:=C2 r [40];refine Ok.step e2 ?_;have l2:=a2.len;cases b with
 |true=>
  dsimp only[cond_true]at a2 l2
  refine(h.assign y2 (hr.after a2) (by omega)).bind fun y3 a3=>?_;refine(N3 y3.2 _).bind fun y4 a4=>?_;exact Ok.ok ⟨a3.1,((a2.trans a3.2).trans a4).mono (by dsimp only;omega)⟩
 |false=>
 obtain⟨b,y5,e5,a5⟩:=C2 y2 [105,110];refine Ok.step e5 ?_;have a25:=a2.trans a5;have l5:=a5.len;cases b with
 |true=>
  refine(N3 y5 _).bind fun y6 a6=>?_;refine(N3 y6 _).bind fun y7 a7=>?_;exact Ok.ok ⟨Y2t (by simp) (by simp) (by simp) (show Z2g 7<=0 by decide) ⟨pz,fun _ e=>absurd e (by decide),fun e=>absurd e (by decide)⟩,((a25.trans a6).trans a7).mono (by dsimp only;rw[wEk];simp[sm])⟩
 |false=>
 obtain⟨b,y8,e8,a8⟩:=C2 y5 [111,117,116];refine Ok.step e8 ?_;have a28:=a25.trans a8;have l8:=a8.len;have hr8:=hr.after a28;cases b with
 |true=>
  dsimp only[cond_true]at l8
  refine(h.bracketed y8 hr8 (by dsimp only[cond_false]at l2 l5;omega)).bind fun y9 a9=>?_;exact Ok.ok ⟨Y2t a9.1.1 (by simp) (by simp) (show Z2g 7<=_ from kX _) ⟨pz,fun _ _=>a9.2,fun e=>absurd e (by decide)⟩,(a28.trans a9.1.2).mono (by dsimp only;rw[wEk];dsimp only[cond_false];omega)⟩
 |false=>
 have nm:Ok ((V6 y8).bind fun y11=>exE y11 (fun y11=>(V0 y11.2 ([40]:List UInt8)).bind fun y12=>bif y12 then(((C6 n).J6 y11.2).bind fun y13=>exE y13 (fun y13=>some (qX (ε:=Z6×Z0) ((⟨7,p,([]:List UInt8),y11.1,0,(⟨([]:List UInt8),([]:List UInt8),0⟩:F9),y13.1⟩:Y2),y13.2))))else(some (qX ((⟨2,p,([]:List UInt8),y11.1,0,(⟨([]:List UInt8),([]:List UInt8),0⟩:F9),[]⟩:Y2),y11.2))))) (PE r):=by
  refine(Q8t hr8).bind fun y11 a11=>?_;obtain⟨b,e12,_⟩:=Q9n y11.2 [40];refine Ok.step e12 ?_;have l11:=a11.2.1.len;cases b with
  |true=>
   refine(h.handed y11.2 (hr8.after a11.2.1) (by dsimp only[cond_false]at l2 l5 l8;omega)).bind fun y13 a13=>?_;exact Ok.ok ⟨Y2t a13.1 (by simp) a11.1 (show Z2g 7<=_ from kX _) ⟨pz,fun _ e=>absurd e a11.2.2,fun e=>absurd e (by decide)⟩,((a28.trans a11.2.1).trans a13.2).mono (by dsimp only;rw[wEk];dsimp only[cond_false];omega)⟩
  |false=>exact Ok.ok ⟨Y2t (by simp) (by simp) a11.1 (show Z2g 2<=0 by decide) (Ex.of (k:=2) pz (by decide) (by decide)),(a28.trans a11.2.1).mono (by dsimp only;rw[wEk];simp[sm])⟩
 cases hl:y8.l with
 |nil=>
  rw[c0 (df (by simp))];exact nm
 |cons t l=>
  rw[c1 (dt (by simp only[qY];omega))]
  dsimp only[cond_false]
  refine Ok.step (x:=t) rfl ?_
  by_cases hk:t.Kind=3
  . rw[c1 (by rw[hk];rfl)];refine(Z8h y8 3).bind fun y10 a10=>?_;exact Ok.ok ⟨Y2t (by simp) (by simp) (by simp) (show Z2g 1<=0 by decide) (Ex.of (k:=1) pz (by decide) (by decide)) (hr8.tu _ a10.1.1),(a28.trans a10.2).mono (by dsimp only;rw[wEk];simp[sm])⟩
  . rw[c0 (by simpa using hk)];exact nm
theorem rdS1:∀n,S1 n
 |0=>⟨fun r _ h=>by omega,fun r _ h=>by omega,fun r _ h=>by omega,fun r _ h=>by omega,fun r _ h=>by omega,fun r k _ h=>by omega,fun r _ h=>by omega,fun r _ h=>by omega⟩
 |n+1=>⟨Y9p (rdS1 n),handed_s (rdS1 n),prime_s (rdS1 n),post_s (rdS1 n),unary_s (rdS1 n),binary_s (rdS1 n),cond_s (rdS1 n),assign_s (rdS1 n)⟩
theorem Z6d{r:Z0}(hr:Rd r):Ok (X6 r) (PE r):=(rdS1 NN).assign r hr (by have:=hr.len;unfold NN;omega)
theorem Z1q{r:Z0}(hr:Rd r):Ok (U2 r) (PL1 r 2):=(rdS1 NN).bracketed r hr (by have:=hr.len;unfold NN;omega)
theorem Y0d{r:Z0}(hr:Rd r){v:G9}(ht:OkT v.Type_)(hn:v.Name.length<=70000)(hp:Pn v.Pos):Ok (E4 r v) (fun x=>OkV x.1/\x.1.Type_=v.Type_/\Af r x.2 (x.1.Dims.length+sm wE x.1.Init+1)):=by
 unfold E4;have lr:=hr.len;refine(Y9e hr).bind fun y1 a1=>?_
 dsimp only[jn]
 have fin:∀(x3:G9)(x4:Z0),OkV x3->x3.Type_=v.Type_->Af r x4 (x3.Dims.length+sm wE x3.Init)->Ok ((Y7 x4 ([59]:List UInt8)).bind fun y10=>exE y10 (fun y10=>some (qX (ε:=Z6×Z0) (x3,y10)))) (fun x=>OkV x.1/\x.1.Type_=v.Type_/\Af r x.2 (x.1.Dims.length+sm wE x.1.Init+1)):=by
  intro x3 x4 h1 h2 h3;exact(N3 x4 _).bind fun y a=>Ok.ok ⟨h1,h2,h3.trans a⟩
 obtain⟨b,y2,e2,a2⟩:=C2 y1.2 [61];refine Ok.step e2 ?_;have a12:=a1.trans a2;cases b with
 |false=>exact fin _ _ ⟨hn,ht,by simp,hp,fun _=>by simp⟩ rfl (a12.mono (by simp[sm]))
 |true=>
  obtain⟨c,y3,e3,a3⟩:=C2 y2 [123]
  dsimp only[cond_true]
  refine Ok.step e3 ?_;have a13:=a12.trans a3;refine(Z6d (hr.after a13)).bind fun y4 a4=>?_;refine Ok.step (E1 (by simp)) ?_;have a14:=a13.trans a4.2;refine Ok.loop (fun s=>OkV s.1/\s.1.Type_=v.Type_/\Af r s.2 (s.1.Dims.length+sm wE s.1.Init)) (fun s=>s.2.l.length) ⟨⟨hn,ht,by simpa using a4.1,hp,fun _=>by simp⟩,rfl,a14.mono (by dsimp only;rw[List.nil_append,sm1];omega)⟩ (by have:=a14.len;dsimp only;omega) ?_;rintro⟨x7,x8⟩ ⟨i1,i2,i3⟩
  dsimp only at i1 i2 i3⊢
  have li:=i3.len;have hx:=S7 Q2u x7.Init
  have stop:∀y5,Af r y5 (x7.Dims.length+sm wE x7.Init)->Ok (bif x7.Brace then((Y7 y5 ([125]:List UInt8)).bind fun y7=>exE y7 (fun y7=>(Y7 y7 ([59]:List UInt8)).bind fun y10=>exE y10 (fun y10=>some (qX (ε:=Z6×Z0) (x7,y10)))))else((Y7 y5 ([59]:List UInt8)).bind fun y10=>exE y10 (fun y10=>some (qX (ε:=Z6×Z0) (x7,y10))))) (fun x=>OkV x.1/\x.1.Type_=v.Type_/\Af r x.2 (x.1.Dims.length+sm wE x.1.Init+1)):=by
   intro y5 h5;cases x7.Brace with
   |true=>exact(N3 y5 _).bind fun y7 a7=>fin _ _ i1 i2 ((h5.trans a7).mono (by omega))
   |false=>exact fin _ _ i1 i2 h5
  cases hb:x7.Brace with
  |false=>
   refine Rn.ok ?_;have:=stop x8 i3;rw[hb]at this
   dsimp only[NxR,Lp.thn]
   rw[hb];exact this
  |true=>
   obtain⟨b,y5,e5,a5⟩:=C2 x8 [44]
   dsimp only[cond_true]
   refine Rn.step e5 ?_;have a35:=i3.trans a5;have l5:=a5.len;cases b with
   |false=>
    refine Rn.ok ?_;have:=stop y5 (a35.mono (by omega));rw[hb]at this
    dsimp only[NxR,Lp.thn]
    rw[hb];exact this
   |true=>
    dsimp only[cond_true]at l5
    refine Rn.bind (Z6d (hr.after a35)) (fun y6 a6=>?_) (fun e=>Ok.err);refine Rn.step (E1 (by simp;omega)) ?_;have l6:=a6.2.len
    dsimp only at l6
    refine Rn.ok ⟨⟨⟨i1.name,i1.ty,?_,i1.pos,fun e=>by cases e⟩,i2,(a35.trans a6.2).mono (by dsimp only[cond_true];rw[Q2a,sm1];omega)⟩,by dsimp only;omega⟩;intro y hy
    rcases jQ.1 hy with hy|hy
    . exact i1.init y hy
    . have:y=y6.1:=by simpa using hy
      rw[this];exact a6.1
theorem Y6s{r:Z0}(hr:Rd r):Ok (L1 r) (fun x=>OkV x.1/\Af r x.2 (wV x.1+2)):=by
 unfold L1;obtain⟨p,ep,pz⟩:=Z5j hr;refine Ok.step ep ?_;refine(Q8b hr).bind fun y2 a2=>?_;refine(Q8t (hr.after a2.2)).bind fun y3 a3=>?_;have a23:=a2.2.trans a3.2.1;refine(Y0d (hr.after a23) (v:=⟨p,y2.1,y3.1,[],[],false⟩) a2.1 a3.1 pz).bind fun y4 a4=>?_;refine Ok.ok ⟨a4.1,(a23.trans a4.2.2).mono ?_⟩;have h:wV y4.1=1+y4.1.Type_.Stars.toNat+y4.1.Dims.length+sm wE y4.1.Init:=rfl
 dsimp only
 rw[h,a4.2.1]
 dsimp only
 omega
theorem Y3v(r:Z0)(k:Nat)(m:List UInt8):∃b,P5 r (k:Int) m=some b:=by
 unfold P5
 by_cases h:k<r.l.length
 . rw[c1 (dlt h),P6 h,qV]
   by_cases ht:r.l[k].Text=m
   . rw[c1 (dt ht),qV];cases(r.l[k].Kind==2)<;>exact⟨_,rfl⟩
   . rw[c0 (df ht)];exact⟨_,rfl⟩
 . rw[c0 (df (by omega))];exact⟨_,rfl⟩
theorem wV0{p:Pos}{t:F9}{s:List UInt8}{b:Bool}{d:List Int}:wV ⟨p,t,s,d,[],b⟩=1+t.Stars.toNat+d.length:=rfl
theorem Y3w{r:Z0}(hr:Rd r):Ok (M6 r) (fun x=>(∀v∈x.1,OkV v)/\Af r x.2 (sm wV x.1+2)):=by
 unfold M6;have lr:=hr.len;refine(N3 r _).bind fun y1 a1=>?_
 dsimp only[jn]
 have key:∀x1,Af r x1 1->Ok ((Y9 x1 ([41]:List UInt8)).bind fun y5=>bif y5.1 then(some (qX ([],y5.2)))else((X8 (fun(x2,x3)=>((K6 x3).bind fun y6=>(U6 x3).bind fun y7=>exL y7 (fun y7=>(V6 y7.2).bind fun y8=>exL y8 (fun y8=>(W8 (qQ x2+qQ ([(⟨y6,y7.1,y8.1,[],[],false⟩:G9)]:List G9))).bind fun _=>(Y9 y8.2 ([44]:List UInt8)).bind fun y9=>bif !y9.1 then((Y7 y9.2 ([41]:List UInt8)).bind fun y10=>exL y10 (fun y10=>some (Lp.ret (qX (x2++([(⟨y6,y7.1,y8.1,[],[],false⟩:G9)]:List G9),y10)))))else(some (Lp.go (x2++([(⟨y6,y7.1,y8.1,[],[],false⟩:G9)]:List G9),y9.2))))):Option (Lp ((List G9)×Z0) (Except (Z6×Z0) ((List G9)×Z0))))) NN ([],y5.2)).bind fun o=>o.thn (fun(x2,x3)=>none) (fun r=>some r))) (fun x=>(∀v∈x.1,OkV v)/\Af r x.2 (sm wV x.1+2)):=by
  intro x1 h1;obtain⟨b,y5,e5,a5⟩:=C2 x1 [41];refine Ok.step e5 ?_;have a15:=h1.trans a5;cases b with
  |true=>exact Ok.ok ⟨by simp,a15.mono (by simp[sm])⟩
  |false=>
   refine Ok.loop (fun s=>(∀v∈s.1,OkV v)/\Af r s.2 (sm wV s.1+1)) (fun s=>s.2.l.length) ⟨by simp,a15.mono (by simp[sm])⟩ (by have:=a15.len;dsimp only;omega) ?_;rintro⟨x2,x3⟩ ⟨i1,i2⟩
   dsimp only at i1 i2⊢
   have li:=i2.len;have hx:=S7 Z2h x2;obtain⟨p,ep,pz⟩:=Z5j (hr.after i2);refine Rn.step ep ?_;refine Rn.bind (Q8b (hr.after i2)) (fun y7 a7=>?_) (fun e=>Ok.err);have a37:=i2.trans a7.2;refine Rn.bind (Q8t (hr.after a37)) (fun y8 a8=>?_) (fun e=>Ok.err);have a38:=a37.trans a8.2.1;refine Rn.step (E1 (by simp;omega)) ?_;obtain⟨b,y9,e9,a9⟩:=C2 y8.2 [44];refine Rn.step e9 ?_;have a39:=a38.trans a9
   have hv:∀v∈x2++[(⟨p,y7.1,y8.1,[],[],false⟩:G9)],OkV v:=by
    intro v hv
    rcases jQ.1 hv with hv|hv
    . exact i1 v hv
    . have:v=⟨p,y7.1,y8.1,[],[],false⟩:=by simpa using hv
      rw[this];exact⟨a8.1,a7.1,by simp,pz,fun _=>by simp⟩
   have hw:sm wV (x2++[(⟨p,y7.1,y8.1,[],[],false⟩:G9)])=sm wV x2+(1+y7.1.Stars.toNat):=by
    rw[Q2a,Q7b,wV0]
    simp[sm]
   have l7:=a7.2.len;have l8:=a8.2.1.len;have l9:=a9.len;cases b with
   |false=>
    refine Rn.bind (N3 y9 _) (fun y10 a10=>?_) (fun e=>Ok.err);exact Rn.ok (Ok.ok ⟨hv,(a39.trans a10).mono (by dsimp only;rw[hw];dsimp only[cond_false];omega)⟩)
   |true=>
    exact Rn.ok ⟨⟨hv,a39.mono (by dsimp only;rw[hw];dsimp only[cond_true];omega)⟩,by dsimp only[cond_true]at l9⊢;omega⟩
 obtain⟨b,e2,_⟩:=Q9n y1 [118,111,105,100];refine Ok.step e2 ?_;cases b with
 |false=>exact key y1 a1
 |true=>
  obtain⟨c,e3⟩:=Y3v y1 1 [41];refine Ok.step e3 ?_;cases c with
  |false=>exact key y1 a1
  |true=>exact(N3 y1 _).bind fun y4 a4=>key y4 ((a1.trans a4).mono (by omega))
theorem Y4m{r:Z0}(hr:Rd r):Ok (R9 r) (fun x=>(∀v∈x.1,OkV v)/\Af r x.2 (sm wV x.1+3)):=by
 unfold R9;have lr:=hr.len;refine(N3 r _).bind fun y1 a1=>?_;refine Ok.loop (fun s=>(∀v∈s.1,OkV v)/\Af r s.2 (sm wV s.1+1)) (fun s=>s.2.l.length) ⟨by simp,a1.mono (by simp[sm])⟩ (by have:=a1.len;dsimp only;omega) ?_;rintro⟨x1,x2⟩ ⟨i1,i2⟩
 dsimp only at i1 i2⊢
 have li:=i2.len;have hx:=S7 Z2h x1;obtain⟨b,y2,e2,a2⟩:=C2 x2 [125];refine Rn.step e2 ?_;have a12:=i2.trans a2;have l2:=a12.len;cases b with
 |true=>
  dsimp only[cond_true,cond_false,Bool.not_true]at a12⊢
  refine Rn.ok ?_;refine(N3 y2 _).bind fun y8 a8=>Ok.ok ⟨i1,(a12.trans a8).mono (by dsimp only;omega)⟩
 |false=>
  dsimp only[cond_true,cond_false,Bool.not_false]at a12 l2⊢
  obtain⟨p,ep,pz⟩:=Z5j (hr.after a12);refine Rn.step ep ?_;refine Rn.bind (Q8b (hr.after a12)) (fun y4 a4=>?_) (fun e=>Ok.err);have a24:=a12.trans a4.2;refine Rn.bind (Q8t (hr.after a24)) (fun y5 a5=>?_) (fun e=>Ok.err);have a25:=a24.trans a5.2.1;refine Rn.bind (Y9e (hr.after a25)) (fun y6 a6=>?_) (fun e=>Ok.err);have a26:=a25.trans a6;refine Rn.bind (N3 y6.2 _) (fun y7 a7=>?_) (fun e=>Ok.err);have a27:=a26.trans a7;have l7:=a27.len;have l3:=a2.len;have l4:=a4.2.len;have l5:=a5.2.1.len;have l6:=a6.len;have l8:=a7.len;refine Rn.step (E1 (by simp;omega)) ?_;refine Rn.ok ⟨⟨?_,a27.mono ?_⟩,by dsimp only at*;omega⟩
  . intro v hv
    rcases jQ.1 hv with hv|hv
    . exact i1 v hv
    . have:v=⟨p,y4.1,y5.1,y6.1,[],false⟩:=by simpa using hv
      rw[this];exact⟨a5.1,a4.1,by simp,pz,fun _=>by simp⟩
  . dsimp only
    rw[Q2a,Q7b,wV0]
    simp only[sm,List.map_nil,List.sum_nil]
    omega
theorem Z3t{r:Z0}(hr:Rd r)(m:List UInt8):Ok (N2 r m) (PL r 1):=by
 unfold N2;obtain⟨b,y1,e1,a1⟩:=C2 r m;refine Ok.step e1 ?_;cases b with
 |true=>exact Ok.ok ⟨by simp,a1.mono (by simp[sm])⟩
 |false=>
  refine(Z6d (hr.after a1)).bind fun y2 a2=>?_;refine(N3 y2.2 _).bind fun y3 a3=>?_;exact Ok.ok ⟨by simpa using a2.1,((a1.trans a2.2).trans a3).mono (by dsimp only;rw[sm1];omega)⟩
theorem okS{k:Int}{p:Pos}{A B C:List Y2}{V:List G9}{S E:List E0}{D:List Q1d}(a:∀y∈A,OkE y)(b:∀y∈B,OkE y)(c:∀y∈C,OkE y)(v:∀y∈V,OkV y)(s:∀y∈S,OkS y)(e:∀y∈E,OkS y)(d:∀c∈D,∀y∈c.Body,OkS y)(sp:Pn p)(sa:Sa k A.length V.length)(cp:∀c∈D,Pn c.Pos):OkS ⟨k,p,A,B,C,V,S,E,D⟩:= .mk a b c v s e d sp sa cp
theorem Sa.a{k:Int}{a v:Nat}(h:1<=a)(h2:k≠2):Sa k a v:=⟨fun _=>h,fun e=>absurd e h2⟩
theorem Sa.n{k:Int}{a v:Nat}(h:¬(k=1\/k=3\/k=4\/k=5\/k=7))(h2:k≠2):Sa k a v:=⟨fun e=>absurd e h,fun e=>absurd e h2⟩
theorem wSk{k:Int}{p:Pos}{A B C:List Y2}{V:List G9}{S E:List E0}{D:List Q1d}:wS ⟨k,p,A,B,C,V,S,E,D⟩=1+sm wE A+sm wE B+sm wE C+sm wV V+sm wS S+sm wS E+sm wC D:=Z9j _
theorem sm0{α:Type}(w:α->Nat):sm w []=0:=rfl
theorem no{α:Type}{p:α->Prop}:∀y∈([]:List α),p y:=fun y hy=>by cases hy
theorem X2e{r:Z0}(hr:Rd r)(p:Pos)(hp:Pn p):Ok (I8 r ⟨0,p,[],[],[],[],[],[],[]⟩) (fun x=>OkS x.2/\Af r x.1 (wS x.2)):=by
 unfold I8;obtain⟨b,y1,e1,a1⟩:=C2 r [114,101,116,117,114,110];refine Ok.step e1 ?_;cases b with
 |true=>
  refine(Z3t (hr.after a1) _).bind fun y2 a2=>?_;exact Ok.ok ⟨okS a2.1 no no no no no no hp (Sa.n (by decide) (by decide)) no,(a1.trans a2.2).mono (by dsimp only[cond_true];rw[wSk];simp only[sm0];omega)⟩
 |false=>
 obtain⟨b,y3,e3,a3⟩:=C2 y1 [98,114,101,97,107];refine Ok.step e3 ?_;have a13:=a1.trans a3;cases b with
 |true=>
  refine(N3 y3 _).bind fun y4 a4=>?_;exact Ok.ok ⟨okS no no no no no no no hp (Sa.n (by decide) (by decide)) no,(a13.trans a4).mono (by dsimp only[cond_true,cond_false];rw[wSk];simp only[sm0];omega)⟩
 |false=>
 obtain⟨b,y5,e5,a5⟩:=C2 y3 [99,111,110,116,105,110,117,101];refine Ok.step e5 ?_;have a15:=a13.trans a5;cases b with
 |true=>
  refine(N3 y5 _).bind fun y6 a6=>?_;exact Ok.ok ⟨okS no no no no no no no hp (Sa.n (by decide) (by decide)) no,(a15.trans a6).mono (by dsimp only[cond_true,cond_false];rw[wSk];simp only[sm0];omega)⟩
 |false=>
  refine(Z6d (hr.after a15)).bind fun y7 a7=>?_;refine(N3 y7.2 _).bind fun y8 a8=>?_;exact Ok.ok ⟨okS (by simpa using a7.1) no no no no no no hp (Sa.a (qD 1) (by decide)) no,((a15.trans a7.2).trans a8).mono (by dsimp only[cond_false];rw[wSk,sm1];simp only[sm0];omega)⟩
def PB(r:Z0)(k:Nat)(x:List E0×Z0):Prop:=(∀y∈x.1,OkS y)/\Af r x.2 (sm wS x.1+k)
def OkC(c:Q1d):Prop:=(∀y∈c.Body,OkS y)/\Pn c.Pos
def PC(r:Z0)(k:Nat)(x:List Q1d×Z0):Prop:=(∀c∈x.1,OkC c)/\Af r x.2 (sm wC x.1+k)
def PS(r:Z0)(x:E0×Z0):Prop:=OkS x.1/\Af r x.2 (wS x.1)
structure S2(n:Nat):Prop where
 block:∀r,Rd r->10*r.l.length+1<=n->Ok ((Q5s n).J0 r) (PB r 2)
 cases_:∀r,Rd r->10*r.l.length+1<=n->Ok ((Q5s n).M4 r) (PC r 2)
 stmt:∀r,Rd r->10*r.l.length+2<=n->Ok ((Q5s n).J9 r) (PS r)
 body:∀r,Rd r->10*r.l.length+3<=n->Ok ((Q5s n).J2 r) (PB r 0)
theorem body_s{n:Nat}(h:S2 n):∀r,Rd r->10*r.l.length+3<=n+1->Ok ((Q5s (n+1)).J2 r) (PB r 0):=by
 intro r hr hn;show Ok (S4 (Q5s n) r) _;unfold S4;refine(h.stmt r hr (by omega)).bind fun y1 a1=>?_;have hw:=Z9j y1.1;cases hk:(y1.1.Kind==11)with
 |true=>exact Ok.ok ⟨match a1.1 with| .mk a b c v s e d _ _ _=>s,a1.2.mono (by dsimp only;omega)⟩
 |false=>exact Ok.ok ⟨by simpa using a1.1,a1.2.mono (by dsimp only;rw[Q7b,sm0];omega)⟩
theorem block_s{n:Nat}(h:S2 n):∀r,Rd r->10*r.l.length+1<=n+1->Ok ((Q5s (n+1)).J0 r) (PB r 2):=by
 intro r hr hn;show Ok (O9 (Q5s n) r) _;unfold O9;have lr:=hr.len;refine(N3 r _).bind fun y1 a1=>?_;refine Ok.loop (fun s=>(∀y∈s.1,OkS y)/\Af r s.2 (sm wS s.1+1)) (fun s=>s.2.l.length) ⟨no,a1.mono (by simp[sm])⟩ (by have:=a1.len;dsimp only;omega) ?_;rintro⟨x1,x2⟩ ⟨i1,i2⟩
 dsimp only at i1 i2⊢
 have li:=i2.len;have hx:=S7 Z7e x1;obtain⟨b,y2,e2,a2⟩:=C2 x2 [125];refine Rn.step e2 ?_;have a12:=i2.trans a2;have l2:=a12.len;have l3:=a2.len;cases b with
 |true=>
  dsimp only[cond_true,cond_false,Bool.not_true]at a12⊢
  exact Rn.ok (Ok.ok ⟨i1,a12.mono (by dsimp only;omega)⟩)
 |false=>
  dsimp only[cond_true,cond_false,Bool.not_false]at a12 l2 l3⊢
  refine Rn.bind (h.stmt y2 (hr.after a12) (by omega)) (fun y3 a3=>?_) (fun e=>Ok.err);have a13:=a12.trans a3.2;have l4:=a3.2.len;have hp:=Z7e y3.1;refine Rn.step (E1 (by simp;omega)) ?_;refine Rn.ok ⟨⟨?_,a13.mono (by dsimp only;rw[Q2a,Q7b,sm0];omega)⟩,by dsimp only;omega⟩;intro y hy
  rcases jQ.1 hy with hy|hy
  . exact i1 y hy
  . have:y=y3.1:=by simpa using hy
    rw[this];exact a3.1
theorem cases_s{n:Nat}(h:S2 n):∀r,Rd r->10*r.l.length+1<=n+1->Ok ((Q5s (n+1)).M4 r) (PC r 2):=by
 intro r hr hn;show Ok (O8 (Q5s n) r) _;unfold O8;have lr:=hr.len;refine(N3 r _).bind fun y1 a1=>?_;have l1:=a1.len;refine Ok.loop (fun s=>(∀c∈s.1,OkC c)/\Af r s.2 (sm wC s.1+1)) (fun s=>s.2.l.length) ⟨no,a1.mono (by simp[sm])⟩ (by dsimp only;omega) ?_;rintro⟨x1,x2⟩ ⟨i1,i2⟩
 dsimp only at i1 i2⊢
 have li:=i2.len;have hx:=S7 wC_pos x1;obtain⟨b,y2,e2,a2⟩:=C2 x2 [125];refine Rn.step e2 ?_;have a12:=i2.trans a2;have l2:=a12.len;have l3:=a2.len;cases b with
 |true=>
  dsimp only[cond_true,cond_false,Bool.not_true]at a12⊢
  exact Rn.ok (Ok.ok ⟨i1,a12.mono (by dsimp only;omega)⟩)
 |false=>
  dsimp only[cond_true,cond_false,Bool.not_false]at a12 l2 l3⊢
  obtain⟨p,ep,pz⟩:=Z5j (hr.after a12);refine Rn.step ep ?_
  dsimp only[jn]
  have key:∀(x4:Q1d)(x5:Z0),x4.Body=[]->Pn x4.Pos->Af x2 x5 1->Rn ((Y7 x5 ([58]:List UInt8)).bind fun y8=>exL y8 (fun y8=>(X8 (fun(x7,x8)=>((V0 x8 ([99,97,115,101]:List UInt8)).bind fun y9=>bif !y9 then((V0 x8 ([100,101,102,97,117,108,116]:List UInt8)).bind fun y10=>bif !y10 then((V0 x8 ([125]:List UInt8)).bind fun y11=>bif !y11 then(((Q5s n).J9 x8).bind fun y12=>exL y12 (fun y12=>(W8 (qQ x7.Body+qQ ([y12.1]:List E0))).bind fun _=>some (Lp.go ({x7 with Body:=x7.Body++([y12.1]:List E0)},y12.2))))else(some (Lp.brk (x7,x8))))else(some (Lp.brk (x7,x8))))else(some (Lp.brk (x7,x8))):Option (Lp (Q1d×Z0) (Except (Z6×Z0) ((List Q1d)×Z0))))) NN (x4,y8)).bind fun o=>o.thn (fun(x7,x8)=>(W8 (qQ x1+qQ ([x7]:List Q1d))).bind fun _=>some (Lp.go (x1++([x7]:List Q1d),x8))) (fun r=>some (Lp.ret r)))) (NxR (fun s=>(∀c∈s.1,OkC c)/\Af r s.2 (sm wC s.1+1)) (fun s=>s.2.l.length) (x1,x2) (fun o=>o.thn (fun(x1,x2)=>some (qX (ε:=Z6×Z0) (x1,x2))) (fun r=>some r)) (PC r 2)):=by
   intro x4 x5 hb hp a5;refine Rn.bind (N3 x5 _) (fun y8 a8=>?_) (fun e=>Ok.err);have a28:=a5.trans a8;have l8:=a28.len
   refine Exists.elim (Q1n (body:=(fun(x7,x8)=>((V0 x8 ([99,97,115,101]:List UInt8)).bind fun y9=>bif !y9 then((V0 x8 ([100,101,102,97,117,108,116]:List UInt8)).bind fun y10=>bif !y10 then((V0 x8 ([125]:List UInt8)).bind fun y11=>bif !y11 then(((Q5s n).J9 x8).bind fun y12=>exL y12 (fun y12=>(W8 (qQ x7.Body+qQ ([y12.1]:List E0))).bind fun _=>some (Lp.go ({x7 with Body:=x7.Body++([y12.1]:List E0)},y12.2))))else(some (Lp.brk (x7,x8))))else(some (Lp.brk (x7,x8))))else(some (Lp.brk (x7,x8))):Option (Lp (Q1d×Z0) (Except (Z6×Z0) ((List Q1d)×Z0)))))) (n:=NN) (s:=(x4,y8))
    (fun s=>OkC s.1/\Af x2 s.2 (sm wS s.1.Body+2)) (fun s=>s.2.l.length)
    (fun o=>match o with
     | .go _=>False
     | .brk s=>OkC s.1/\Af x2 s.2 (sm wS s.1.Body+2)
     | .ret z=>∃e,z=qK e) ⟨⟨by rw[hb];exact no,hp⟩,by dsimp only;rw[hb];exact a28.mono (by simp[sm])⟩ (Q7a (by dsimp only;omega)) ?_) ?_
   . rintro⟨x7,x8⟩ ⟨j1,j2⟩
     dsimp only at j1 j2⊢
     have lj:=j2.len;have hx7:=S7 Z7e x7.Body;obtain⟨b1,e1,_⟩:=Q9n x8 [99,97,115,101];rw[e1,qV];cases b1 with
     |true=>exact⟨_,rfl,j1,j2⟩
     |false=>
     rw[c1 (b:=!false) rfl];obtain⟨b1,e1,_⟩:=Q9n x8 [100,101,102,97,117,108,116];rw[e1,qV];cases b1 with
     |true=>exact⟨_,rfl,j1,j2⟩
     |false=>
     rw[c1 (b:=!false) rfl];obtain⟨b1,e1,_⟩:=Q9n x8 [125];rw[e1,qV];cases b1 with
     |true=>exact⟨_,rfl,j1,j2⟩
     |false=>
     rw[c1 (b:=!false) rfl];obtain⟨z,ez,hz⟩:=h.stmt x8 (hr.after (i2.trans j2)) (by omega);rw[ez,qV];cases z with
     |error e=>exact⟨_,rfl,_,rfl⟩
     |ok y12=>
      have lz:=hz.2.len;have hp:=Z7e y12.1
      dsimp only[exL,exE,exC]
      rw[E1 (by simp;omega),qV];refine⟨_,rfl,⟨⟨?_,j1.2⟩,(j2.trans hz.2).mono (by dsimp only;rw[Q2a,Q7b,sm0];omega)⟩,by dsimp only;omega⟩;intro y hy
      rcases jQ.1 hy with hy|hy
      . exact j1.1 y hy
      . have:y=y12.1:=by simpa using hy
        rw[this];exact hz.1
   . rintro o ⟨ho,hp⟩;rw[ho,qV];cases o with
     |go _=>exact hp.elim
     |ret z=>
      obtain⟨e,rfl⟩:=hp;exact Rn.ok Ok.err
     |brk s=>
      obtain⟨x7,x8⟩:=s;obtain⟨j1,j2⟩:=hp
      dsimp only at j1 j2
      have lj:=j2.len;have hwc:wC x7=1+sm wS x7.Body:=rfl;refine Rn.step (E1 (by simp;omega)) ?_;refine Rn.ok ⟨⟨?_,(i2.trans j2).mono (by dsimp only;rw[Q2a,Q7b,sm0];omega)⟩,by dsimp only;omega⟩;intro c hc
      rcases jQ.1 hc with hc|hc
      . exact i1 c hc
      . have:c=x7:=by simpa using hc
        rw[this];exact j1
  obtain⟨b,y4,e4,a4⟩:=C2 y2 [100,101,102,97,117,108,116];refine Rn.step e4 ?_;have a24:=a2.trans a4;cases b with
  |true=>exact key _ _ rfl pz (a24.mono (by simp))
  |false=>
   refine Rn.bind (N3 y4 _) (fun y5 a5=>?_) (fun e=>Ok.err);obtain⟨b,y6,e6,a6⟩:=C2 y5 [45];refine Rn.step e6 ?_;refine Rn.bind (Z8h y6 3) (fun y7 a7=>?_) (fun e=>Ok.err);have a27:=((a24.trans a5).trans a6).trans a7.2;cases b with
   |true=>exact key _ _ rfl pz (a27.mono (by simp))
   |false=>exact key _ _ rfl pz (a27.mono (by simp))
def gS(e:Z6×Z0):Z6×Z0:=(e.1,{e.2 with depth:=qJ .i64 (e.2.depth-1)})
theorem stmt_s{n:Nat}(h:S2 n):∀r,Rd r->10*r.l.length+2<=n+1->Ok ((Q5s (n+1)).J9 r) (PS r):=by
 intro r hr hn;show Ok (A9 (Q5s n) r) _;unfold A9;refine(Z5s hr).bind fun y1 d1=>?_;have hr1:=hr.down d1;have ld:y1.l.length=r.l.length:=by rw[d1.1]
 obtain⟨p,ep,pz⟩:=Z5j hr1;refine Ok.step ep ?_
 dsimp only[jn]
 have fin:∀(x1:E0)(x2:Z0),OkS x1->Af y1 x2 (wS x1)->Ok (some (qX (ε:=Z6×Z0) (x1,{x2 with depth:=qJ .i64 (x2.depth-1)}))) (PS r):=fun x1 x2 h1 h2=>Ok.ok ⟨h1,Af.up hr d1 h2⟩;obtain⟨b,e3,_⟩:=Y5m y1;refine Ok.step e3 ?_;cases b with
 |true=>
  refine Ok.bind (g:=gS) (Y6s hr1) fun y4 a4=>?_;exact fin _ _ (okS no no no (by simpa using a4.1) no no no pz ⟨fun h=>absurd h (by decide),fun _=>qD 1⟩ no) (a4.2.mono (by rw[wSk,Q7b];simp only[sm0];omega))
 |false=>
 obtain⟨b,e5,_⟩:=Q9n y1 [123];refine Ok.step e5 ?_;cases b with
 |true=>
  refine Ok.bind (g:=gS) (h.block y1 hr1 (by(try dsimp only at*);omega)) fun y6 a6=>?_;exact fin _ _ (okS no no no no a6.1 no no pz (Sa.n (by decide) (by decide)) no) (a6.2.mono (by rw[wSk];simp only[sm0];omega))
 |false=>
 obtain⟨b,y7,e7,a7⟩:=C2 y1 [59];refine Ok.step e7 ?_;cases b with
 |true=>exact fin _ _ (okS no no no no no no no pz (Sa.n (by decide) (by decide)) no) (a7.mono (by dsimp only[cond_true];rw[wSk];simp only[sm0];omega))
 |false=>
 obtain⟨b,y8,e8,a8⟩:=C2 y7 [105,102];refine Ok.step e8 ?_;have a8:=a7.trans a8;have l8:=a8.len;cases b with
 |true=>
  dsimp only[cond_true,cond_false]at a8 l8
  have hr8:=hr1.after a8;refine Ok.bind (g:=gS) (Z1q hr8) fun y9 a9=>?_;have l9:=a9.1.2.len;refine Ok.bind (g:=gS) (h.body y9.2 (hr8.after a9.1.2) (by(try dsimp only at*);omega)) fun y10 a10=>?_;have l10:=a10.2.len;obtain⟨b,y11,e11,a11⟩:=C2 y10.2 [101,108,115,101];refine Ok.step e11 ?_;have a11':=((a8.trans a9.1.2).trans a10.2).trans a11;have l11:=a11.len;cases b with
  |true=>
   refine Ok.bind (g:=gS) (h.body y11 (hr1.after a11') (by(try dsimp only at*);omega)) fun y12 a12=>?_;exact fin _ _ (okS a9.1.1 no no no a10.1 a12.1 no pz (Sa.a a9.2 (by decide)) no) ((a11'.trans a12.2).mono (by rw[wSk];simp only[sm0];dsimp only[cond_true];omega))
  |false=>exact fin _ _ (okS a9.1.1 no no no a10.1 no no pz (Sa.a a9.2 (by decide)) no) (a11'.mono (by rw[wSk];simp only[sm0];omega))
 |false=>
 obtain⟨b,y13,e13,a13⟩:=C2 y8 [119,104,105,108,101];refine Ok.step e13 ?_;have a13:=a8.trans a13;have l13:=a13.len;cases b with
 |true=>
  dsimp only[cond_true,cond_false]at a13 l13
  have hr13:=hr1.after a13;refine Ok.bind (g:=gS) (Z1q hr13) fun y14 a14=>?_;have l14:=a14.1.2.len;refine Ok.bind (g:=gS) (h.body y14.2 (hr13.after a14.1.2) (by(try dsimp only at*);omega)) fun y15 a15=>?_;exact fin _ _ (okS a14.1.1 no no no a15.1 no no pz (Sa.a a14.2 (by decide)) no) (((a13.trans a14.1.2).trans a15.2).mono (by rw[wSk];simp only[sm0];omega))
 |false=>
 obtain⟨b,y16,e16,a16⟩:=C2 y13 [100,111];refine Ok.step e16 ?_;have a16:=a13.trans a16;have l16:=a16.len;cases b with
 |true=>
  dsimp only[cond_true,cond_false]at a16 l16
  have hr16:=hr1.after a16;refine Ok.bind (g:=gS) (h.body y16 hr16 (by(try dsimp only at*);omega)) fun y17 a17=>?_;refine Ok.bind (g:=gS) (N3 y17.2 _) fun y18 a18=>?_;have a18':=(a16.trans a17.2).trans a18;refine Ok.bind (g:=gS) (Z1q (hr1.after a18')) fun y19 a19=>?_;refine Ok.bind (g:=gS) (N3 y19.2 _) fun y20 a20=>?_;exact fin _ _ (okS a19.1.1 no no no a17.1 no no pz (Sa.a a19.2 (by decide)) no) (((a18'.trans a19.1.2).trans a20).mono (by rw[wSk];simp only[sm0];omega))
 |false=>
 obtain⟨b,y21,e21,a21⟩:=C2 y16 [102,111,114];refine Ok.step e21 ?_;have a21:=a16.trans a21;have l21:=a21.len;cases b with
 |true=>
  dsimp only[cond_true,cond_false]at a21 l21
  refine Ok.bind (g:=gS) (N3 y21 _) fun y22 a22=>?_;have a22':=a21.trans a22;refine Ok.bind (g:=gS) (Z3t (hr1.after a22') _) fun y23 a23=>?_;have a23':=a22'.trans a23.2;refine Ok.bind (g:=gS) (Z3t (hr1.after a23') _) fun y24 a24=>?_;have a24':=a23'.trans a24.2;refine Ok.bind (g:=gS) (Z3t (hr1.after a24') _) fun y25 a25=>?_;have a25':=a24'.trans a25.2;have l25:=a25'.len;refine Ok.bind (g:=gS) (h.body y25.2 (hr1.after a25') (by(try dsimp only at*);omega)) fun y26 a26=>?_;exact fin _ _ (okS a23.1 a24.1 a25.1 no a26.1 no no pz (Sa.n (by decide) (by decide)) no) ((a25'.trans a26.2).mono (by rw[wSk];simp only[sm0];omega))
 |false=>
 obtain⟨b,y27,e27,a27⟩:=C2 y21 [115,119,105,116,99,104];refine Ok.step e27 ?_;have a27:=a21.trans a27;have l27:=a27.len;cases b with
 |true=>
  dsimp only[cond_true,cond_false]at a27 l27
  have hr27:=hr1.after a27;refine Ok.bind (g:=gS) (Z1q hr27) fun y28 a28=>?_;have l28:=a28.1.2.len;refine Ok.bind (g:=gS) (h.cases_ y28.2 (hr27.after a28.1.2) (by(try dsimp only at*);omega)) fun y29 a29=>?_;exact fin _ _ (okS a28.1.1 no no no no no (fun c hc=>(a29.1 c hc).1) pz (Sa.a a28.2 (by decide)) fun c hc=>(a29.1 c hc).2) (((a27.trans a28.1.2).trans a29.2).mono (by rw[wSk];simp only[sm0];omega))
 |false=>
  refine Ok.bind (g:=fun e:Z6×Z0×E0=>(e.1,{e.2.1 with depth:=qJ .i64 (e.2.1.depth-1)})) (X2e (hr1.after a27) p pz) fun y30 a30=>?_;exact fin _ _ a30.1 ((a27.trans a30.2).mono (by omega))
theorem rdS2:∀n,S2 n
 |0=>⟨fun r _ h=>by omega,fun r _ h=>by omega,fun r _ h=>by omega,fun r _ h=>by omega⟩
 |n+1=>⟨block_s (rdS2 n),cases_s (rdS2 n),stmt_s (rdS2 n),body_s (rdS2 n)⟩
theorem Y6n{r:Z0}(hr:Rd r):Ok (J0 r) (PB r 2):=(rdS2 NN).block r hr (by have:=hr.len;unfold NN;omega)
theorem Y1x{r:Z0}(hr:Rd r){p:K1}(hp:OkP p)(hw:wP p<=5000):Ok (G5 r p) (fun x=>OkP x.2/\∃k,wP x.2=wP p+k/\1<=k/\Af r x.1 k):=by
 unfold G5;have hwp:wP p=sm wT p.Structs+sm wV p.Globals+sm wF p.Funcs:=rfl;have l1:=S7 Y3f p.Structs;have l2:=S7 Z2h p.Globals;have l3:=S7 Y1o p.Funcs;obtain⟨q,eq,qz⟩:=Z5j hr;refine Ok.step eq ?_
 dsimp only[jn]
 have rest:Ok ((U6 r).bind fun y13=>exC y13 (fun y13=>(V6 y13.2).bind fun y14=>exC y14 (fun y14=>(V0 y14.2 ([40]:List UInt8)).bind fun y15=>bif !y15 then((E4 y14.2 (⟨q,y13.1,y14.1,[],[],false⟩:G9)).bind fun y16=>exC y16 (fun y16=>(W8 (qQ p.Globals+qQ ([y16.1]:List G9))).bind fun _=>some (qX (y16.2,{p with Globals:=p.Globals++([y16.1]:List G9)}))) (fun e9=>some (qK (e9.1,e9.2,p))))else((M6 y14.2).bind fun y17=>exC y17 (fun y17=>(J0 y17.2).bind fun y18=>exC y18 (fun y18=>(W8 (qQ p.Funcs+qQ ([{(⟨q,y13.1,y14.1,y17.1,[]⟩:I1)with Body:=y18.1}]:List I1))).bind fun _=>some (qX (y18.2,{p with Funcs:=p.Funcs++([{(⟨q,y13.1,y14.1,y17.1,[]⟩:I1)with Body:=y18.1}]:List I1)}))) (fun e11=>some (qK (e11.1,e11.2,p)))) (fun e10=>some (qK (e10.1,e10.2,p))))) (fun e12=>some (qK (e12.1,e12.2,p)))) (fun e13=>some (qK (e13.1,e13.2,p)))) (fun x=>OkP x.2/\∃k,wP x.2=wP p+k/\1<=k/\Af r x.1 k):=by
  refine Ok.bind (g:=fun e:Z6×Z0=>(e.1,e.2,p)) (Q8b hr) fun y13 a13=>?_;refine Ok.bind (g:=fun e:Z6×Z0=>(e.1,e.2,p)) (Q8t (hr.after a13.2)) fun y14 a14=>?_;have a134:=a13.2.trans a14.2.1;have hr14:=hr.after a134;obtain⟨b,e15,_⟩:=Q9n y14.2 [40];refine Ok.step e15 ?_;cases b with
  |false=>
   refine Ok.bind (g:=fun e:Z6×Z0=>(e.1,e.2,p)) (Y0d hr14 (v:=⟨q,y13.1,y14.1,[],[],false⟩) a13.1 a14.1 qz) fun y16 a16=>?_;have hv:wV y16.1=1+y16.1.Type_.Stars.toNat+y16.1.Dims.length+sm wE y16.1.Init:=rfl;rw[a16.2.1]at hv;refine Ok.step (E1 (by simp;omega)) ?_;refine Ok.ok ⟨⟨hp.s,?_,hp.f⟩,wV y16.1,?_,Z2h _,(a134.trans a16.2.2).mono (by dsimp only at hv⊢;omega)⟩
   . intro v hv
     rcases jQ.1 hv with hv|hv
     . exact hp.g v hv
     . have:v=y16.1:=by simpa using hv
       rw[this];exact a16.1
   . show sm wT p.Structs+sm wV (p.Globals++[y16.1])+sm wF p.Funcs=_;rw[Q2a,Q7b,sm0];omega
  |true=>
   refine Ok.bind (g:=fun e:Z6×Z0=>(e.1,e.2,p)) (Y3w hr14) fun y17 a17=>?_;have a17':=a134.trans a17.2;refine Ok.bind (g:=fun e:Z6×Z0=>(e.1,e.2,p)) (Y6n (hr.after a17')) fun y18 a18=>?_;refine Ok.step (E1 (by simp;omega)) ?_;have hf:wF (⟨q,y13.1,y14.1,y17.1,y18.1⟩:I1)=1+y13.1.Stars.toNat+sm wV y17.1+sm wS y18.1:=rfl;refine Ok.ok ⟨⟨hp.s,hp.g,?_⟩,wF (⟨q,y13.1,y14.1,y17.1,y18.1⟩:I1),?_,Y1o _,(a17'.trans a18.2).mono (by omega)⟩
   . intro f hf
     rcases jQ.1 hf with hf|hf
     . exact hp.f f hf
     . have:f=⟨q,y13.1,y14.1,y17.1,y18.1⟩:=by simpa using hf
       rw[this];exact⟨a14.1,a13.1,a17.1,a18.1,qz⟩
   . show sm wT p.Structs+sm wV p.Globals+sm wF (p.Funcs++[(⟨q,y13.1,y14.1,y17.1,y18.1⟩:I1)])=_;rw[Q2a,Q7b,sm0];omega
 obtain⟨b,e2,_⟩:=Q9n r [115,116,114,117,99,116];refine Ok.step e2 ?_;cases b with
 |false=>exact rest
 |true=>
  obtain⟨b,e3⟩:=Y3v r 2 [123];refine Ok.step e3 ?_;cases b with
  |false=>exact rest
  |true=>
   refine Ok.bind (g:=fun e:Z6×Z0=>(e.1,e.2,p)) (N3 r _) fun y4 a4=>?_;refine Ok.bind (g:=fun e:Z6×Z0=>(e.1,e.2,p)) (Q8t (hr.after a4)) fun y5 a5=>?_;have a45:=a4.trans a5.2.1;refine Ok.bind (g:=fun e:Z6×Z0=>(e.1,e.2,p)) (Y4m (hr.after a45)) fun y6 a6=>?_;refine Ok.step (E1 (by simp;omega)) ?_;have hf:wT (⟨q,y5.1,y6.1⟩:Q2n)=1+sm wV y6.1:=rfl;refine Ok.ok ⟨⟨?_,hp.g,hp.f⟩,wT (⟨q,y5.1,y6.1⟩:Q2n),?_,Y3f _,(a45.trans a6.2).mono (by omega)⟩
   . intro s hs
     rcases jQ.1 hs with hs|hs
     . exact hp.s s hs
     . have:s=⟨q,y5.1,y6.1⟩:=by simpa using hs
       rw[this];exact⟨a5.1,a6.1,qz⟩
   . show sm wT (p.Structs++[(⟨q,y5.1,y6.1⟩:Q2n)])+sm wV p.Globals+sm wF p.Funcs=_;rw[Q2a,Q7b,sm0];omega
theorem X1e{r:Z0}(hr:Rd r):∃z,Q0j r=some z/\∀x,z= .ok x->OkP x.1/\wP x.1<=5000:=by
 unfold Q0j;have lr:=hr.len
 refine Exists.elim (Q1n (body:=(fun(x4,x5)=>(bif decide (0<(qQ x5.l:Int))then((G5 x5 x4).bind fun y1=>exC y1 (fun y1=>some (Lp.go (y1.2,y1.1))) (fun e1=>some (Lp.ret (qK ((⟨[],[],[]⟩:K1),e1.1,e1.2.1)))))else(some (Lp.brk (x4,x5))):Option (Lp (K1×Z0) (Except (K1×Z6×Z0) (K1×Z0)))))) (n:=NN) (s:=((⟨[],[],[]⟩:K1),r))
  (fun s=>OkP s.1/\Af r s.2 (wP s.1)) (fun s=>s.2.l.length)
  (fun o=>match o with
   | .go _=>False
   | .brk s=>OkP s.1/\wP s.1<=5000
   | .ret z=>∃e,z=qK e) ⟨⟨no,no,no⟩,(Af.refl r).mono (qD 0)⟩ (Q7a (by dsimp only;omega)) ?_) ?_
 . rintro⟨x4,x5⟩ ⟨i1,i2⟩
   dsimp only at i1 i2⊢
   have li:=i2.len
   by_cases hl:0<x5.l.length
   . rw[c1 (dt (by omega))];obtain⟨z,ez,hz⟩:=Y1x (hr.after i2) i1 (by omega);rw[ez,qV];cases z with
     |error e=>exact⟨_,rfl,_,rfl⟩
     |ok x=>
      obtain⟨h1,k,h2,h3,h4⟩:=hz;have:=h4.len;exact⟨_,rfl,⟨h1,(i2.trans h4).mono (by dsimp only;omega)⟩,by dsimp only;omega⟩
   . rw[c0 (df (by omega))];exact⟨_,rfl,i1,by dsimp only;omega⟩
 . rintro o ⟨ho,hp⟩;rw[ho,qV];cases o with
   |go _=>exact hp.elim
   |ret z=>
    obtain⟨e,rfl⟩:=hp;exact⟨_,rfl,fun x hx=>by cases hx⟩
   |brk s=>
    obtain⟨x4,x5⟩:=s;exact⟨_,rfl,fun x hx=>by cases hx;exact hp⟩
theorem out_tok:Q0g (outW++[])=some (⟨2,outW,0,Z9w⟩,0):=by kernel_rfl
theorem lx_cnt{s:List UInt8}{ts:List X5}(h:Lx s ts)(hl:s.length<=100000):ts.length<=s.length/\∀t∈ts,t.Text.length<=s.length/\(t.Kind=1->t.Text≠outW)/\U32 t.Num:=by
 induction h with
 |nil=>simp
 |@blank s ts h n hn h0 k ih=>
  obtain⟨i1,i2⟩:=ih (by simp;omega);rw[List.length_drop]at i1 i2;exact⟨by omega,fun t ht=>⟨by have:=(i2 t ht).1;omega,(i2 t ht).2⟩⟩
 |@tok s t ts h hb ht k ih=>
  obtain⟨i1,i2⟩:=ih (by simp;omega);rw[List.length_drop]at i1 i2;obtain⟨y,ey,hT⟩:=Z1d s h hl;rw[ey]at ht;cases ht;have hT:=hT rfl;have h1:=List.length_pos_iff.2 hT.ne;have h2:=hT.pre.length_le
  dsimp only at h1 h2 i1 i2
  refine⟨by rw[qY];omega,fun x hx=>?_⟩
  rcases qZ.1 hx with rfl|hx
  . refine⟨h2,fun hk he=>?_,hT.nu⟩;have h3:=hT.again [] (fun c hc=>by cases hc) (by rw[jK];dsimp only;omega)
    dsimp only at h3
    rw[he,out_tok]at h3;have:x=⟨2,outW,0,Z9w⟩:=(congrArg (fun z=>z.1) (Option.some.inj h3)).symm;rw[this]at hk;exact absurd hk (by decide)
  . exact⟨by have:=(i2 x hx).1;omega,(i2 x hx).2⟩
theorem Read_any(s:List UInt8)(hs:s.length<=4000):∃p q e,Q5j s=some (p,q,e)/\(e=0->OkP p/\wP p<=5000):=by
 obtain⟨⟨l,q,e⟩,ey,hy⟩:=Y5z s (by omega);unfold Q5j;rw[ey,qV]
 dsimp only at hy⊢
 by_cases he:e=0
 . have hx:Lx s (l.map Z0z)/\(∀t∈l,Pn t.Pos)/\Pn q:=by
    rcases hy with hy|hy
    . exact hy.2
    . exact absurd he hy.1
   obtain⟨c1',c2⟩:=lx_cnt hx.1 (by omega);rw[List.length_map]at c1';have hr:Rd ⟨l,q,0⟩:=⟨fun t ht=>by have:=c2 (Z0z t) (List.mem_map_of_mem ht);exact jH this.1 (by omega),by dsimp only;omega,⟨Int.le_refl 0,(by decide:(0:Int)<=200)⟩,hx.2.1,hx.2.2,fun t ht=>(c2 (Z0z t) (List.mem_map_of_mem ht)).2.1,fun t ht=>(c2 (Z0z t) (List.mem_map_of_mem ht)).2.2⟩;obtain⟨z,ez,hz⟩:=X1e hr;rw[c0 (by rw[he];rfl),ez,qV];cases z with
   |ok x=>exact⟨_,_,_,rfl,fun _=>hz x rfl⟩
   |error x=>exact⟨_,_,_,rfl,fun _=>⟨⟨no,no,no⟩,by decide⟩⟩
 . rw[c1 (by simpa using he)];exact⟨_,_,_,rfl,fun _=>⟨⟨no,no,no⟩,by decide⟩⟩
theorem sp_app(p:UInt8->Bool):∀(s z:List UInt8),(∀c,z.head?=some c->p c=false)->sp p (s++z)=sp p s
 |[],[],_=>rfl
 |[],c::z,h=>by
  show sp p (c::z)=0
  unfold sp
  rw[if_neg (by simp[h c rfl])]
 |x::s,z,h=>by
  show(if p x then sp p (s++z)+1 else 0)=(if p x then sp p s+1 else 0)
  rw[sp_app p s z h]
theorem sp_lt(p:UInt8->Bool):∀(s z:List UInt8),sp p s<s.length->sp p (s++z)=sp p s
 |[],z,h=>by simp at h
 |x::s,z,h=>by
  show(if p x then sp p (s++z)+1 else 0)=(if p x then sp p s+1 else 0)
  by_cases hx:p x=true
  . have e:sp p (x::s)=sp p s+1:=by show(if p x then sp p s+1 else 0)=_;rw[if_pos hx]
    rw[if_pos hx,if_pos hx,sp_lt p s z (by rw[e]at h;simp at h;omega)]
  . rw[if_neg hx,if_neg hx]
theorem X1i(p:UInt8->Bool):∀(s z:List UInt8),sp p s=s.length->sp p (s++z)=s.length+sp p z
 |[],z,h=>by simp
 |x::s,z,h=>by
  by_cases hx:p x=true
  . have e:sp p (x::s)=sp p s+1:=by show(if p x then sp p s+1 else 0)=_;rw[if_pos hx]
    show(if p x then sp p (s++z)+1 else 0)=_
    rw[if_pos hx,X1i p s z (by rw[e]at h;simp at h;omega)]
    simp;omega
  . have e:sp p (x::s)=0:=by show(if p x then sp p s+1 else 0)=_;rw[if_neg hx]
    rw[e]at h;simp at h
theorem Y9c{α:Type}{p q:α->Bool}:∀l:List α,(∀x∈l,p x=q x)->l.findIdx? p=l.findIdx? q
 |[],_=>rfl
 |x::l,h=>by
  rw[List.findIdx?_cons,List.findIdx?_cons,h x (by simp),Y9c l (fun y hy=>h y (by simp[hy]))]
theorem X2l{s z:List UInt8}(hz:Sepr z):Z0i (s++z)=Z0i s:=by
 unfold Z0i;rw[Y9c (q:=fun m=>decide (m<+:s)) Z0h (fun m hm=>decide_eq_decide.2 ⟨Y7d (fun x hx=>((Y3z m hm).2 x hx).1) hz,fun h=>h.trans (List.prefix_append s z)⟩)]
theorem Y5n(c:UInt8)(l':List UInt8):Q0g (c::l')=(bif letB (c.toNat:Int)then((Q7n (c::l')).bind fun y2=>(sub (c::l') 0 y2).bind fun u2=>bif decide (31<y2)then(some ((⟨1,u2,0,(⟨0,0⟩:Pos)⟩:X5),(2:Int)))else(jn (fun kk1=>(Z1x u2).bind fun y3=>bif y3 then(kk1 (⟨2,u2,0,(⟨0,0⟩:Pos)⟩:X5))else(kk1 (⟨1,u2,0,(⟨0,0⟩:Pos)⟩:X5))) (fun(x1:X5)=>some (x1,(0:Int)))))else(bif digB (c.toNat:Int)then((Q9j (c::l')).bind fun y5=>some (y5.1,y5.2))else(bif (UInt8.toNat c:Int)==39 then((Q2q (c::l')).bind fun y6=>some (y6.1,y6.2))else((Z3f (c::l')).bind fun y7=>bif decide (y7=([]:List UInt8))then(some ((⟨0,([]:List UInt8),0,(⟨0,0⟩:Pos)⟩:X5),(3:Int)))else(some ((⟨4,y7,0,(⟨0,0⟩:Pos)⟩:X5),(0:Int))))))):=by
 unfold Q0g;rw[show idx (c::l') 0=some c from rfl]
 simp only[qV,Y1z,Y1j]
theorem X2b{s z:List UInt8}(hs:s≠[])(hz:Sepr z)(hl:(s++z).length<=100000){t:X5}(h:Q0g s=some (t,0)):Q0g (s++z)=some (t,0):=by
 obtain⟨c,l,rfl⟩:∃c l,s=c::l:=by
  cases s with
  |nil=>exact absurd rfl hs
  |cons c l=>exact⟨c,l,rfl⟩
 have hl':(c::l).length<=100000:=by rw[qW]at hl;omega
 have hm:=sp_app Q1q (c::l) z (fun c hc=>Z8p (hz c hc));have hle:=Z7k Q1q (c::l);rw[jX,Y5n];rw[Y5n]at h;rw[jX]at hm hl;cases hlet:letB (c.toNat:Int)with
 |true=>
  rw[hlet,cond_true,Z7j _ (by omega),qV,Z1u hle,qV]at h;rw[cond_true,Z7j _ (by omega),qV,hm,Z1u (by rw[<-jX,qW];omega),qV,<-jX,List.take_append_of_le_length hle];exact h
 |false=>
  rw[hlet,cond_false]at h;rw[cond_false];cases hdig:digB (c.toNat:Int)with
  |true=>
   rw[hdig,cond_true,Z8s _ hl']at h;rw[cond_true,Z8s _ hl,hm,<-jX,List.take_append_of_le_length hle];exact h
  |false=>
   rw[hdig,cond_false]at h;rw[cond_false];cases hq:((c.toNat:Int)==39)with
   |true=>
    rw[hq,cond_true]at h;rw[cond_true];obtain⟨⟨u,e⟩,hy,hp⟩:=Y6g (c::l);rw[hy,qV]at h;cases h;obtain⟨⟨q,e1⟩,_,_,_,_,p5⟩:=hp rfl;have:=p5 (q++z);rw[<-qS,e1,jX]at this;rw[this]
    rfl
   |false=>
    rw[hq,cond_false,Y2x,qV]at h;rw[cond_false,Y2x,qV,<-jX,X2l hz];exact h
theorem Y4i:∀(s z sb:List UInt8),sb≠[]->0<=Go.Lib.index s sb->Go.Lib.index (s++z) sb=Go.Lib.index s sb
 |[],z,sb,hn,h=>by
  unfold Go.Lib.index at h
  rw[if_neg (by simpa using hn)]at h
  omega
 |b::l,z,sb,hn,h=>by
  have hf:=Y4h (b::l) sb hn h
  rw[jX]
  unfold Go.Lib.index at h hf⊢
  by_cases h1:sb.isPrefixOf (b::l)=true
  . rw[if_pos h1,if_pos (List.isPrefixOf_iff_prefix.2 ((List.isPrefixOf_iff_prefix.1 h1).trans (by rw[<-jX];exact List.prefix_append _ _)))]
  . rw[if_neg h1]at h hf⊢
    have hne:Go.Lib.index l sb≠ -1:=by
     intro e;rw[e,if_pos (by decide)]at h;omega
    have h2:¬(Go.Lib.index l sb== -1)=true:=by simpa using hne
    rw[if_neg h2]at h hf⊢;have hge:=Go.Lib.index_ge l sb;rw[if_neg (fun e=>?_),Y4i l z sb hn (by omega),if_neg h2];have e:=List.isPrefixOf_iff_prefix.1 e;rw[<-jX]at e;refine h1 (List.isPrefixOf_iff_prefix.2 (List.prefix_of_prefix_length_le e (List.prefix_append _ _) ?_))
    simp at hf⊢
    omega
theorem idx_nl:∀(s z:List UInt8),Go.Lib.index s [10]<0->Go.Lib.index (s++10::z) [10]=(s.length:Int)
 |[],z,_=>by
  show Go.Lib.index (10::z) [10]=_
  unfold Go.Lib.index
  rw[if_pos (by simp[List.isPrefixOf])]
  rfl
 |b::l,z,h=>by
  have hge:=Go.Lib.index_ge l [10]
  rw[jX]
  unfold Go.Lib.index at h⊢
  by_cases h1:([10]:List UInt8).isPrefixOf (b::l)=true
  . rw[if_pos h1]at h;omega
  . rw[if_neg h1]at h
    have h1':¬([10]:List UInt8).isPrefixOf (b::(l++10::z))=true:=by
     simpa[List.isPrefixOf]using h1
    have hl:Go.Lib.index l [10]<0:=by
     by_cases h2:(Go.Lib.index l [10]== -1)=true
     . have:Go.Lib.index l [10]= -1:=by simpa using h2
       omega
     . rw[if_neg h2]at h;omega
    rw[if_neg h1',idx_nl l z hl,if_neg (by simp)]
    simp
theorem X1l(z:List UInt8):Sepr (10::z):=fun c hc=>by cases hc;rfl
theorem Y3b{x:UInt8}{s z:List UInt8}(hx:blB x=false):([47,x]:List UInt8)<+:s++10::z↔([47,x]:List UInt8)<+:s:=
 ⟨Y7d (fun y hy=>by
  rcases qZ.1 hy with rfl|hy
  . rfl
  . rw[kQ.1 hy];exact hx) (X1l z),fun h=>h.trans (List.prefix_append s _)⟩
theorem X1v{s z:List UInt8}(hs:s≠[])(hz:sp blB z=0)(h:0<=blS s):blS (s++10::z)=blS s\/(blS s=s.length/\blS (s++10::z)=s.length+1):=by
 have hi:=Go.Lib.index_le s [10];unfold blS at h⊢
 by_cases h1:([47,47]:List UInt8)<+:s
 . rw[if_pos h1,if_pos ((Y3b (by decide)).2 h1)]
   by_cases h2:0<=Go.Lib.index s [10]
   . rw[if_pos h2,Y4i s _ [10] (by simp) h2,if_pos h2];exact .inl rfl
   . rw[if_neg h2,idx_nl s z (by omega),if_pos (by omega)];exact .inl rfl
 . rw[if_neg h1]at h;rw[if_neg h1,if_neg (fun e=>h1 ((Y3b (by decide)).1 e))]
   by_cases h2:([47,42]:List UInt8)<+:s
   . rw[if_pos h2]at h;rw[if_pos h2,if_pos ((Y3b (by decide)).2 h2)]
     by_cases h3:Go.Lib.index (s.drop 2) [42,47]<0
     . rw[if_pos h3]at h;omega
     . have hl2:=h2.length_le
       simp at hl2
       rw[if_neg h3,List.drop_append_of_le_length hl2,Y4i _ _ [42,47] (by simp) (by omega),if_neg h3];exact .inl rfl
   . rw[if_neg h2,if_neg (fun e=>h2 ((Y3b (by decide)).1 e))];have hle:=Z7k blB s
     by_cases hlt:sp blB s<s.length
     . rw[sp_lt _ _ _ hlt];exact .inl rfl
     . have:sp blB s=s.length:=by omega
       refine .inr ⟨by rw[this],?_⟩;rw[X1i _ _ _ this,show sp blB (10::z)=sp blB z+1 from rfl,hz]
       rfl
inductive Lq:List UInt8->Pos->List X5->Pos->Prop
 |nil {p:Pos}:Lq [] p [] p
 |blank {s:List UInt8} {p q:Pos} {ts:List X5} (h:s≠[]) (n:Nat) (hn:blS s=(n:Int)) (h0:0<n) (k:Lq (s.drop n) (adv p (s.take n)) ts q):Lq s p ts q
 |tok {s:List UInt8} {p q:Pos} {t:X5} {ts:List X5} (h:s≠[]) (hb:blS s=0) (ht:Q0g s=some (t,0)) (k:Lq (s.drop t.Text.length) (adv p t.Text) ts q):Lq s p ({t with Pos:=p}::ts) q
theorem lq_app{s:List UInt8}{p q:Pos}{ts:List X5}(h:Lq s p ts q){z:List UInt8}(hz:sp blB z=0){tz:List X5}{qe:Pos}(hk:Lq z (adv q [10]) tz qe):(s++10::z).length<=100000->Lq (s++10::z) p (ts++tz) qe:=by
 induction h with
 |nil=>
  intro _;refine .blank (by simp) 1 ?_ (by decide) hk;have h1:¬([47,47]:List UInt8)<+:10::z:=fun e=>by have:=List.cons_prefix_cons.1 e;exact absurd this.1 (by decide)
  have h2:¬([47,42]:List UInt8)<+:10::z:=fun e=>by have:=List.cons_prefix_cons.1 e;exact absurd this.1 (by decide)
  show blS (10::z)=_;unfold blS;rw[if_neg h1,if_neg h2,show sp blB (10::z)=sp blB z+1 from rfl,hz]
 |@blank s p q ts hs n hn h0 k ih=>
  intro hl;have hl':s.length<=100000:=by rw[qW]at hl;omega
  have hle:=(Z5a s hl').2;rw[hn]at hle;have hle':n<=s.length:=by omega
  rcases X1v (z:=z) hs hz (by omega)with e|⟨e1,e2⟩
  . refine .blank (by simp) n (e.trans hn) h0 ?_;rw[List.drop_append_of_le_length hle',List.take_append_of_le_length hle'];exact ih hk (by rw[qW]at hl⊢;rw[List.length_drop];omega)
  . have en:n=s.length:=by omega
    subst en;refine .blank (by simp) (s.length+1) (by rw[e2];rfl) (by omega) ?_;rw[List.drop_length,List.take_length]at k;have d1:(s++10::z).drop (s.length+1)=z:=by rw[<-List.drop_drop,List.drop_left];rfl
    have d2:(s++10::z).take (s.length+1)=s++[10]:=by rw[List.take_append,List.take_of_length_le (by omega)];simp
    rw[d1,d2,X1y];cases k with
    |nil=>exact hk
    |blank h=>exact absurd rfl h
    |tok h=>exact absurd rfl h
 |@tok s p q t ts hs hb ht k ih=>
  intro hl;have hl':s.length<=100000:=by rw[qW]at hl;omega
  obtain⟨y,hy,hp⟩:=Z1d s hs hl';rw[ht]at hy;cases hy;have hpl:=(hp rfl).pre.length_le;have hne:0<s.length:=List.length_pos_iff.2 hs;refine .tok (by simp) ?_ (X2b hs (X1l z) hl ht) ?_
  . rcases X1v (z:=z) hs hz (by omega)with e|⟨e1,e2⟩
    . exact e.trans hb
    . omega
  . rw[List.drop_append_of_le_length hpl];exact ih hk (by rw[qW]at hl⊢;rw[List.length_drop];omega)
theorem lq_run{s:List UInt8}{p:Pos}{ts:List X5}{q:Pos}(h:Lq s p ts q):∀(x1:List X5)(m f:Nat),Z6l p m->1<=m->m+s.length<=1000000->s.length<=100000->x1.length+s.length<=1000000->s.length<f->
 X8 Q9a f (x1,⟨s,p⟩)=some (.brk (x1++ts,⟨[],q⟩)):=by
 induction h with
 |nil=>
  intro x1 m f _ _ _ _ _ hf;cases f with
  |zero=>omega
  |succ f=>unfold X8;rw[Y4w,jK]
 |@blank s p q ts hs n hn h0 k ih=>
  intro x1 m f h1 h2 h3 h4 h5 hf;have hle:=(Z5a s h4).2;rw[hn]at hle;have htk:(s.take n).length=n:=by rw[qE];omega
  cases f with
  |zero=>omega
  |succ f=>
   unfold X8;rw[Y0c h1 h2 h3 h4 hs hn h0];have hp:=Y0e h1 h2 (s.take n);rw[htk]at hp;exact ih x1 (m+n) f hp (by omega) (by rw[List.length_drop];omega) (by rw[List.length_drop];omega) (by rw[List.length_drop];omega) (by rw[List.length_drop];omega)
 |@tok s p q t ts hs hb ht k ih=>
  intro x1 m f h1 h2 h3 h4 h5 hf;obtain⟨y,hy,hp⟩:=Z1d s hs h4;rw[ht]at hy;cases hy;have hT:Tok t s:=hp rfl;have hpl:=hT.pre.length_le;have hne:1<=t.Text.length:=List.length_pos_iff.2 hT.ne;cases f with
  |zero=>omega
  |succ f=>
   unfold X8;rw[Y4v h1 h2 h3 h4 (by omega) hs hb ht hT.pre];have e1:=ih (x1++[{t with Pos:=p}]) (m+t.Text.length) f (Y0e h1 h2 t.Text) (by omega) (by rw[List.length_drop];omega) (by rw[List.length_drop];omega) (by rw[List.length_drop];simp;omega) (by rw[List.length_drop];omega);refine e1.trans ?_;rw[qS];rfl
theorem lq_lex{s:List UInt8}{ts:List X5}{q:Pos}(h:Lq s ⟨1,1⟩ ts q)(hl:s.length<=65536):Z0k s=some (ts,q,0):=by
 have e1:=lq_run h [] 1 NN X0h (by omega) (by omega) (by omega) (by simp;omega) (Q7a (by omega));unfold Z0k;rw[c0 (df (by omega))];exact bnd e1 rfl
theorem lex_lq(s:List UInt8)(hl:s.length<=65536):∃y,Z0k s=some y/\((y.2.2=0/\Lq s ⟨1,1⟩ y.1 y.2.1)\/y.2.2≠0):=by
 unfold Z0k;rw[c0 (df (by omega))]
 obtain⟨o,ho,hp⟩:=Q1n (R:=List X5×Pos×Int) (body:=Q9a) (n:=NN) (s:=([],(⟨s,(⟨1,1⟩:Pos)⟩:N4)))
  (fun x=>x.2.s.length<=s.length/\Z6l x.2.pos (1+(s.length-x.2.s.length))/\x.1.length+x.2.s.length<=s.length/\∀ts q,Lq x.2.s x.2.pos ts q->Lq s ⟨1,1⟩ (x.1++ts) q) (fun x=>x.2.s.length)
  (fun o=>(∃q p,o= .brk (q,⟨[],p⟩)/\Lq s ⟨1,1⟩ q p)\/∃p e,o= .ret ([],p,e)/\e≠0)
  ⟨qD _,by dsimp only;rw[Nat.sub_self];exact X0h,by simp,fun ts q h=>h⟩ (Q7a (by dsimp only;omega)) (by
   rintro⟨x1,⟨u,p⟩⟩ ⟨h1,h2,h3,h4⟩
   dsimp only at h1 h2 h3 h4⊢
   by_cases hu:u=[]
   . subst hu;exact⟨_,Y4w,.inl ⟨x1,p,rfl,by have:=h4 [] p .nil;rwa[jK]at this⟩⟩
   . have hb:=Z5a u (by omega)
     by_cases hneg:blS u<0
     . refine⟨.ret ([],p,3),?_,.inr ⟨p,3,rfl,by decide⟩⟩;unfold Q9a
       dsimp only
       rw[c1 (by simpa using hu)];refine bnd hb.1 ?_;rw[c1 (dt hneg)]
     . by_cases hpos:0<blS u
       . obtain⟨n,hn⟩:=jR (show 0<=blS u by omega);have htk:(u.take n).length=n:=by rw[qE];omega
         refine⟨_,Y0c h2 (by omega) (by omega) (by omega) hu hn (by omega),⟨by dsimp only;rw[List.length_drop];omega,?_,by dsimp only;rw[List.length_drop];omega,fun ts q hts=>h4 ts q (.blank hu n hn (by omega) hts)⟩,by dsimp only;rw[List.length_drop];omega⟩;have:=Y0e h2 (by omega) (u.take n)
         dsimp only
         rw[List.length_drop,show 1+(s.length-(u.length-n))=1+(s.length-u.length)+(u.take n).length by omega];exact this
       . have hz:blS u=0:=by omega
         obtain⟨⟨t,e⟩,hy,hT⟩:=Z1d u hu (by omega)
         by_cases he:e=0
         . subst he;have hT:Tok t u:=hT rfl;have hpl:=hT.pre.length_le;have hne:1<=t.Text.length:=List.length_pos_iff.2 hT.ne;refine⟨_,Y4v h2 (by omega) (by omega) (by omega) (by omega) hu hz hy hT.pre,⟨by dsimp only;rw[List.length_drop];omega,?_,by dsimp only;rw[List.length_drop];simp;omega,fun ts q hts=>?_⟩,by dsimp only;rw[List.length_drop];omega⟩
           . have:=Y0e h2 (by omega) t.Text
             dsimp only
             rw[List.length_drop,show 1+(s.length-(u.length-t.Text.length))=1+(s.length-u.length)+t.Text.length by omega];exact this
           . have:=h4 _ q (.tok hu hz hy hts)
             dsimp only
             rw[qS];exact this
         . refine⟨.ret ([],p,e),?_,.inr ⟨p,e,rfl,he⟩⟩;unfold Q9a
           dsimp only
           rw[c1 (by simpa using hu)];refine bnd hb.1 ?_;rw[c0 (df hneg),c0 (df hpos)];refine bnd hy ?_;rw[c1 (by simpa using he)])
 refine exb ho ?_
 rcases hp with⟨q,p,rfl,hL⟩|⟨p,e,rfl,he⟩
 . exact⟨_,rfl,.inl ⟨rfl,hL⟩⟩
 . exact⟨_,rfl,.inr he⟩
def zz:List UInt8:=[105,110,116,32,122,122,57,40,105,110,116,32,97,41,32,123,32,114,101,116,117,114,110,32,97,59,32,125]
def zw2(k:Int)(t:List UInt8):X5:=⟨k,t,0,Z9w⟩
def ztk:List X5:=[zw2 2 [105,110,116],zw2 1 [122,122,57],zw2 4 [40],zw2 2 [105,110,116],zw2 1 [97],zw2 4 [41],zw2 4 [123],zw2 2 [114,101,116,117,114,110],zw2 1 [97],zw2 4 [59],zw2 4 [125]]
def Zq(s:List UInt8)(ts:List X5):Prop:=∀p,∃tz q,Lq s p tz q/\tz.map Z0z=ts
theorem Zq.tok{s s':List UInt8}{k:Int}{t:List UInt8}{ts:List X5}(k0:Zq s' ts)(h:s≠[]:=by decide)(hb:blS s=0:=by decide+kernel)(ht:Q0g s=some (zw2 k t,0):=by kernel_rfl)(hd:s.drop t.length=s':=by rfl):Zq s (zw2 k t::ts):=fun p=>by
 subst hd
 obtain⟨tz,q,h1,h2⟩:=k0 (adv p t)
 exact⟨_,q,.tok h hb ht h1,by rw[List.map_cons,h2];rfl⟩
theorem Zq.bl{s:List UInt8}{ts:List X5}(k0:Zq s ts)(hb:blS (32::s)=1:=by decide+kernel):Zq (32::s) ts:=fun p=>by
 obtain⟨tz,q,h1,h2⟩:=k0 (adv p [32])
 exact⟨tz,q,.blank (by simp) 1 hb (by decide) h1,h2⟩
theorem zz_q:Zq zz ztk:=by
 have h0:Zq [] []:=fun p=>⟨[],p,.nil,rfl⟩;have h1:Zq [125] [zw2 4 [125]]:= .tok h0;have b1:Zq [32,125] [zw2 4 [125]]:= .bl h1;have h2:Zq [59,32,125] [zw2 4 [59],zw2 4 [125]]:= .tok b1;have h3:Zq [97,59,32,125] [zw2 1 [97],zw2 4 [59],zw2 4 [125]]:= .tok h2;have b3:Zq [32,97,59,32,125] [zw2 1 [97],zw2 4 [59],zw2 4 [125]]:= .bl h3;have h4:Zq [114,101,116,117,114,110,32,97,59,32,125] [zw2 2 [114,101,116,117,114,110],zw2 1 [97],zw2 4 [59],zw2 4 [125]]:= .tok b3;have b4:Zq [32,114,101,116,117,114,110,32,97,59,32,125] [zw2 2 [114,101,116,117,114,110],zw2 1 [97],zw2 4 [59],zw2 4 [125]]:= .bl h4;have h5:Zq [123,32,114,101,116,117,114,110,32,97,59,32,125] [zw2 4 [123],zw2 2 [114,101,116,117,114,110],zw2 1 [97],zw2 4 [59],zw2 4 [125]]:= .tok b4;have b5:Zq [32,123,32,114,101,116,117,114,110,32,97,59,32,125] [zw2 4 [123],zw2 2 [114,101,116,117,114,110],zw2 1 [97],zw2 4 [59],zw2 4 [125]]:= .bl h5;have h6:Zq [41,32,123,32,114,101,116,117,114,110,32,97,59,32,125] [zw2 4 [41],zw2 4 [123],zw2 2 [114,101,116,117,114,110],zw2 1 [97],zw2 4 [59],zw2 4 [125]]:= .tok b5;have h7:Zq [97,41,32,123,32,114,101,116,117,114,110,32,97,59,32,125] [zw2 1 [97],zw2 4 [41],zw2 4 [123],zw2 2 [114,101,116,117,114,110],zw2 1 [97],zw2 4 [59],zw2 4 [125]]:= .tok h6;have b7:Zq [32,97,41,32,123,32,114,101,116,117,114,110,32,97,59,32,125] [zw2 1 [97],zw2 4 [41],zw2 4 [123],zw2 2 [114,101,116,117,114,110],zw2 1 [97],zw2 4 [59],zw2 4 [125]]:= .bl h7;have h8:Zq [105,110,116,32,97,41,32,123,32,114,101,116,117,114,110,32,97,59,32,125] [zw2 2 [105,110,116],zw2 1 [97],zw2 4 [41],zw2 4 [123],zw2 2 [114,101,116,117,114,110],zw2 1 [97],zw2 4 [59],zw2 4 [125]]:= .tok b7;have h9:Zq [40,105,110,116,32,97,41,32,123,32,114,101,116,117,114,110,32,97,59,32,125] [zw2 4 [40],zw2 2 [105,110,116],zw2 1 [97],zw2 4 [41],zw2 4 [123],zw2 2 [114,101,116,117,114,110],zw2 1 [97],zw2 4 [59],zw2 4 [125]]:= .tok h8;have h10:Zq [122,122,57,40,105,110,116,32,97,41,32,123,32,114,101,116,117,114,110,32,97,59,32,125] [zw2 1 [122,122,57],zw2 4 [40],zw2 2 [105,110,116],zw2 1 [97],zw2 4 [41],zw2 4 [123],zw2 2 [114,101,116,117,114,110],zw2 1 [97],zw2 4 [59],zw2 4 [125]]:= .tok h9;have b10:Zq [32,122,122,57,40,105,110,116,32,97,41,32,123,32,114,101,116,117,114,110,32,97,59,32,125] [zw2 1 [122,122,57],zw2 4 [40],zw2 2 [105,110,116],zw2 1 [97],zw2 4 [41],zw2 4 [123],zw2 2 [114,101,116,117,114,110],zw2 1 [97],zw2 4 [59],zw2 4 [125]]:= .bl h10;have h11:Zq [105,110,116,32,122,122,57,40,105,110,116,32,97,41,32,123,32,114,101,116,117,114,110,32,97,59,32,125] [zw2 2 [105,110,116],zw2 1 [122,122,57],zw2 4 [40],zw2 2 [105,110,116],zw2 1 [97],zw2 4 [41],zw2 4 [123],zw2 2 [114,101,116,117,114,110],zw2 1 [97],zw2 4 [59],zw2 4 [125]]:= .tok b10;exact h11
theorem X0p(s:List UInt8)(hl:s.length<=4000){l:List X5}{e:Pos}(h:Z0k s=some (l,e,0)):∃tz e',Z0k (s++10::zz)=some (l++tz,e',0)/\tz.map Z0z=ztk:=by
 obtain⟨y,hy,hq⟩:=lex_lq s (by omega);rw[h]at hy;cases hy
 rcases hq with⟨_,hq⟩|hq
 . obtain⟨tz,e',h1,h2⟩:=zz_q (adv e [10]);have hz:zz.length=28:=rfl;exact⟨tz,e',lq_lex (lq_app hq (by decide) h1 (by rw[qW,qY,hz];omega)) (by rw[qW,qY,hz];omega),h2⟩
 . exact absurd rfl hq
class Xo(Z:Type) where
 bad:Z->Prop
 exo:List X5->Pos->Z->Z
open Xo
def xr(T:List X5)(q:Pos)(r:Z0):Z0:=⟨r.l++T,q,r.depth⟩
instance:Xo Z0:=⟨fun _=>False,xr⟩
instance{A:Type}:Xo (A×Z0):=⟨fun _=>False,fun T q z=>(z.1,xr T q z.2)⟩
instance{A:Type}:Xo (Z0×A):=⟨fun _=>False,fun T q z=>(xr T q z.1,z.2)⟩
instance{E A:Type}[Xo A]:Xo (Except E A):=⟨fun| .ok _=>False| .error _=>True,fun T q=>fun| .ok x=> .ok (exo T q x)| .error e=> .error e⟩
instance{S R:Type}[Xo S][Xo R]:Xo (Lp S R):=⟨fun| .ret x=>bad x|_=>False,fun T q=>fun| .go s=> .go (exo T q s)| .brk s=> .brk (exo T q s)| .ret x=> .ret (exo T q x)⟩
variable{T:List X5}{q:Pos}{r:Z0}
def Sy{Z:Type}[Xo Z](T:List X5)(q:Pos)(y y':Option Z):Prop:=∀z,y=some z->bad z\/y'=some (exo T q z)
def Nk{Z:Type}[Xo Z](y:Option Z):Prop:=∀z,y=some z->bad z
section
variable{Z X E A S R B:Type}[Xo Z][Xo X][Xo A][Xo S][Xo R]
theorem Sy.ok{z z':Z}(h:z'=exo T q z:=by rfl):Sy T q (some z) (some z'):=fun x e=>by cases e;rw[h];exact .inr rfl
theorem Sy.er{z:Z}{y':Option Z}(h:bad z:=by trivial):Sy T q (some z) y':=fun x e=>by cases e;exact .inl h
theorem Sy.nk{y y':Option Z}(h:Nk y):Sy T q y y':=fun z e=> .inl (h z e)
theorem Sy.none{y':Option Z}:Sy T q none y':=fun z e=>by cases e
theorem Sy.sk{m:Option B}{f f':B->Option Z}(k:∀x,m=some x->Sy T q (f x) (f' x)):Sy T q (m.bind f) (m.bind f'):=by
 cases hm:m with
 |none=>exact .none
 |some x=>exact k x hm
theorem Sy.st{m m':Option X}{f f':X->Option Z}(s:∀x,m=some x->m'=some (exo T q x))(k:∀x,m=some x->Sy T q (f x) (f' (exo T q x))):Sy T q (m.bind f) (m'.bind f'):=by
 cases hm:m with
 |none=>exact .none
 |some x=>rw[s x hm];exact k x hm
theorem Sy.bx{m m':Option (Except E A)}{f f':A->Option Z}{k k':E->Option Z}(s:Sy T q m m')(c:∀x,m=some (.ok x)->Sy T q (f x) (f' (exo T q x)))(e:∀x,Nk (k x)):Sy T q (m.bind fun y=>exC y f k) (m'.bind fun y=>exC y f' k'):=by
 cases hm:m with
 |none=>exact .none
 |some y=>
  cases y with
  |error x=>exact .nk (e x)
  |ok x=>
   rcases s _ hm with h|h
   . exact h.elim
   . rw[h];exact c x hm
theorem Sy.cd{b:Bool}{x y x' y':Option Z}(h:Sy T q x x')(k:Sy T q y y'):Sy T q (bif b then x else y) (bif b then x' else y'):=by cases b<;>assumption
theorem Sy.lp{b b':S->Option (Lp S R)}(hb:∀s,Sy T q (b s) (b' (exo T q s))):∀n s,Sy T q (X8 b n s) (X8 b' n (exo T q s)):=by
 intro n
 induction n with
 |zero=>intro s z e;cases e
 |succ n ih=>
  intro s z e;unfold X8 at e⊢;cases hy:b s with
  |none=>rw[hy]at e;cases e
  |some o=>
   rw[hy]at e
   rcases hb s o hy with h|h
   . cases o with
     |go s1=>exact h.elim
     |brk s1=>exact h.elim
     |ret x=>cases e;exact .inl h
   . rw[h];cases o with
     |go s1=>exact ih s1 z e
     |brk s1=>cases e;exact .inr rfl
     |ret x=>cases e;exact .inr rfl
theorem Sy.tn{y y':Option (Lp S R)}{f f':S->Option Z}{g g':R->Option Z}(s:Sy T q y y')(c:∀x,Sy T q (f x) (f' (exo T q x)))(d:∀x,Sy T q (g x) (g' (exo T q x)))(e:∀x,bad x->Nk (g x)):Sy T q (y.bind fun o=>o.thn f g) (y'.bind fun o=>o.thn f' g'):=by
 cases hm:y with
 |none=>exact .none
 |some o=>
  rcases s _ hm with h|h
  . cases o with
    |go s1=>exact h.elim
    |brk s1=>exact h.elim
    |ret x=>exact .nk (e x h)
  . rw[h];cases o with
    |go s1=>exact .none
    |brk s1=>exact c s1
    |ret x=>exact d x
theorem Nk.er{z:Z}(h:bad z:=by trivial):Nk (some z):=fun x e=>by cases e;exact h
theorem Nk.none:Nk (Z:=Z) none:=fun z e=>by cases e
theorem Nk.sk{m:Option B}{f:B->Option Z}(k:∀x,m=some x->Nk (f x)):Nk (m.bind f):=by
 cases hm:m with
 |none=>exact .none
 |some x=>exact k x hm
theorem Nk.bx{D:Type}{m:Option (Except E D)}{f:D->Option Z}{k:E->Option Z}(s:∀x,m=some (.ok x)->Nk (f x))(e:∀x,Nk (k x)):Nk (m.bind fun y=>exC y f k):=by
 cases hm:m with
 |none=>exact .none
 |some y=>
  cases y with
  |error x=>exact e x
  |ok x=>exact s x hm
theorem Nk.cd{b:Bool}{x y:Option Z}(h:Nk x)(k:Nk y):Nk (bif b then x else y):=by cases b<;>assumption
end
structure Tz(T:List X5):Prop where
 h:T.map Z0z=ztk
theorem Tz.get(h:Tz T){k:Nat}(hk:k<3):∃t,T[k]?=some t/\t.Text≠[41]/\t.Text≠[123]/\(k=0->t.Text=[105,110,116]/\t.Kind=2):=by
 have e:(T[k]?).map Z0z=ztk[k]?:=by rw[<-h.h,List.getElem?_map]
 match k,hk with
 |0,_=>cases ht:T[0]?with
  |none=>rw[ht]at e;cases e
  |some t=>
   rw[ht]at e;have e:=Option.some.inj e;have e1:t.Text=[105,110,116]:=congrArg X5.Text e;exact⟨t,rfl,by rw[e1];decide,by rw[e1];decide,fun _=>⟨e1,congrArg X5.Kind e⟩⟩
 |1,_=>cases ht:T[1]?with
  |none=>rw[ht]at e;cases e
  |some t=>
   rw[ht]at e;have e1:t.Text=[122,122,57]:=congrArg X5.Text (Option.some.inj e);exact⟨t,rfl,by rw[e1];decide,by rw[e1];decide,fun h=>by cases h⟩
 |2,_=>cases ht:T[2]?with
  |none=>rw[ht]at e;cases e
  |some t=>
   rw[ht]at e;have e1:t.Text=[40]:=congrArg X5.Text (Option.some.inj e);exact⟨t,rfl,by rw[e1];decide,by rw[e1];decide,fun h=>by cases h⟩
theorem Tz.cons(h:Tz T):∃t l,T=t::l/\t.Text=[105,110,116]/\t.Kind=2:=by
 obtain⟨t,e,_,_,k⟩:=h.get (k:=0) (by decide);cases T with
 |nil=>cases e
 |cons x l=>cases e;exact⟨t,l,rfl,(k rfl).1,(k rfl).2⟩
def intW:List UInt8:=[105,110,116]
theorem X0i(h:Tz T)(k:Nat)(hk:k<3)(m:List UInt8)(hm:(k=0/\m≠intW)\/m=[41]\/m=[123]):P5 (xr T q r) (k:Int) m=P5 r (k:Int) m:=by
 unfold P5 xr
 dsimp only
 by_cases hl:k<r.l.length
 . have e:idx (r.l++T) (k:Int)=idx r.l (k:Int):=by rw[P6 hl,P6 (by rw[qW];omega),List.getElem_append_left hl]
   rw[dt (show(k:Int)<(r.l.length:Int) by omega),dt (show(k:Int)<((r.l++T).length:Int) by rw[qW];omega),e]
 . rw[df (show¬(k:Int)<(r.l.length:Int) by omega),cond_false]
   by_cases hl2:k<(r.l++T).length
   . rw[dt (show(k:Int)<((r.l++T).length:Int) by omega),cond_true,P6 hl2,qV,List.getElem_append_right (by omega)];obtain⟨t,e,h1,h2,h3⟩:=h.get (k:=k-r.l.length) (by omega)
     have e':T[k-r.l.length]'(by rw[qW]at hl2;omega)=t:=by
      rw[kM (by rw[qW]at hl2;omega)]at e;exact Option.some.inj e
     rw[e',df (show¬t.Text=m from fun hh=>?_)]
     . rfl
     . rcases hm with⟨rfl,hm⟩|rfl|rfl
       . exact hm (hh.symm.trans (h3 (by omega)).1)
       . exact h1 hh
       . exact h2 hh
   . rw[df (show¬(k:Int)<((r.l++T).length:Int) by omega),cond_false]
theorem Z2t(h:Tz T){m:List UInt8}(hm:m≠intW):V0 (xr T q r) m=V0 r m:=by
 unfold V0;rw[show(0:Int)=((0:Nat):Int)from rfl,X0i h 0 (by decide) m (.inl ⟨rfl,hm⟩)]
theorem take_nil{e:Pos}{d:Int}(m:List UInt8):Y9 ⟨[],e,d⟩ m=some (false,⟨[],e,d⟩):=rfl
theorem Q0t(h:Tz T){m:List UInt8}(hm:m≠intW)(x:Bool×Z0)(e:Y9 r m=some x):Y9 (xr T q r) m=some (exo T q x):=by
 unfold Y9 at e⊢;rw[Z2t h hm];cases hi:V0 r m with
 |none=>rw[hi]at e;cases e
 |some b=>
  rw[hi,qV]at e;rw[qV];cases b with
  |false=>cases e;rfl
  |true=>
   cases hl:r.l with
   |nil=>rw[hl]at e;cases e
   |cons t l=>
    rw[hl,show sub (t::l) 1 ((t::l).length:Int)=some l from Q8s t l]at e;have e2:(xr T q r).l=t::(l++T):=by unfold xr;rw[hl];rfl
    rw[e2,show sub (t::(l++T)) 1 ((t::(l++T)).length:Int)=some (l++T)from Q8s _ _];cases e
    rfl
theorem X0r{Z:Type}[Xo Z]{k:Int}{f:Unit->Option Z}{g:Z6->Option Z}(hg:∀x,Nk (g x)):Nk ((W3 r k).bind fun y=>exC y f g):=by
 obtain⟨e,he⟩:=Z3k r k;rw[he];exact hg e
theorem Q1f(h:Tz T){m:List UInt8}(hm:m≠intW):Sy T q (Y7 r m) (Y7 (xr T q r) m):=by
 unfold Y7;refine Sy.st (Q0t h hm) fun x hx=>?_;show Sy T q (bif !x.1 then _ else _) (bif !x.1 then _ else _);refine Sy.cd (.nk (X0r fun e=> .er)) .ok
theorem must_ne{m:List UInt8}{x:Z0}(e:Y7 r m=some (.ok x)):r.l≠[]:=by
 rintro hl;obtain⟨l,p,d⟩:=r;subst hl;cases e
theorem kind_ne{k:Int}{x:X5×Z0}(e:D9 r k=some (.ok x)):r.l≠[]:=by
 rintro hl;obtain⟨l,p,d⟩:=r;subst hl;cases e
theorem Q6h(h:Tz T){k:Int}:Sy T q (D9 r k) (D9 (xr T q r) k):=by
 intro z e;cases z with
 |error e=>exact .inl trivial
 |ok z=>
  right
  have hne:=kind_ne e;obtain⟨l,p,d⟩:=r;cases l with
  |nil=>exact absurd rfl hne
  |cons t l=>
   have hk:t.Kind=k:=by
    rcases Decidable.em (t.Kind=k)with h1|h1
    . exact h1
    . exfalso
      unfold D9 jn at e
      dsimp only at e
      rw[c0 lz]at e;rw[show idx (t::l) 0=some t from rfl,qV,c1 (by simpa using h1)]at e;cases e
   rw[Y4f hk]at e;cases e;exact Y4f hk
theorem Q6g(h:Tz T):Sy T q (V6 r) (V6 (xr T q r)):=by
 unfold V6;exact Sy.bx (Q6h h) (fun x _=> .ok) fun e=> .er
theorem name_ne{x:List UInt8×Z0}(e:V6 r=some (.ok x)):r.l≠[]:=by
 rintro hl;obtain⟨l,p,d⟩:=r;subst hl;cases e
theorem Y5x(hl:r.l≠[]):K6 (xr T q r)=K6 r:=by
 obtain⟨l,p,d⟩:=r;cases l with
 |nil=>exact absurd rfl hl
 |cons t l=>
  rw[Y0v];exact Y0v _ _ _ _
theorem Q8p(h:Tz T):E6 (xr T q r)=E6 r:=by
 obtain⟨l,p,d⟩:=r;cases l with
 |nil=>
  obtain⟨t,l,rfl,h1,h2⟩:=h.cons;exact Z8t (by rw[h2];decide)
 |cons t l=>
  by_cases hk:t.Kind=4
  . rw[Y4a hk];exact Y4a hk
  . rw[Z8t hk];exact Z8t hk
theorem Y8r{k:Int}{x:Y2×Z0}(e:K0 r k=some x):r.l≠[]:=by
 rintro hl;obtain⟨l,p,d⟩:=r;subst hl;cases e
theorem Q0l(h:Tz T){k:Int}(x:Y2×Z0)(e:K0 r k=some x):K0 (xr T q r) k=some (exo T q x):=by
 have hne:=Y8r e;unfold K0 at e⊢;rw[Y5x hne,Q8p h];obtain⟨y1,e1,e⟩:=Z9 e;obtain⟨y2,e2,e⟩:=Z9 e;rw[e1,e2,qV,qV];obtain⟨l,p,d⟩:=r;cases l with
 |nil=>exact absurd rfl hne
 |cons t l=>
  rw[show sub (t::l) 1 ((t::l).length:Int)=some l from Q8s t l]at e;rw[show(xr T q ⟨t::l,p,d⟩).l=t::(l++T)from rfl,show sub (t::(l++T)) 1 ((t::(l++T)).length:Int)=some (l++T)from Q8s _ _];cases e
  rfl
theorem Y1k:Sy T q (F0 r) (F0 (xr T q r)):=by
 unfold F0 jn;exact Sy.cd (.nk (X0r fun e=> .er)) .ok
theorem Z8l{x:Z0}(e:F0 r=some (.ok x)):x.l=r.l:=by
 unfold F0 jn at e;cases hd:r.depth==200 with
 |true=>
  rw[hd]at e
  dsimp only[cond_true]at e
  obtain⟨y,hy⟩:=Z3k r 2;rw[hy]at e;cases e
 |false=>rw[hd]at e;cases e;rfl
theorem is_t(t:X5)(l:List X5)(e:Pos)(d:Int)(m:List UInt8):V0 ⟨t::l,e,d⟩ m=bif decide (t.Text=m)then(bif t.Kind==2 then some true else some (t.Kind==4))else some false:=by
 unfold V0 P5
 dsimp only
 rw[c1 (dt (show(0:Int)<((t::l).length:Int) by simp only[qY];omega)),show idx (t::l) 0=some t from rfl,qV]
 simp only[qV]
 cases decide (t.Text=m)<;>cases t.Kind==2<;>rfl
theorem X1c(h:Tz T)(hl:r.l≠[]):R5 (xr T q r)=R5 r:=by
 unfold R5
 have e0:V0 (xr T q r) [105,110,116]=V0 r [105,110,116]:=by
  obtain⟨l,p,d⟩:=r;cases l with
  |nil=>exact absurd rfl hl
  |cons t l=>rw[is_t];exact is_t _ _ _ _ _
 rw[e0,Z2t h (by decide),Z2t h (by decide),Z2t h (by decide)]
open Xo
instance:Xo Unit:=⟨fun _=>False,fun _ _ x=>x⟩
variable{T:List X5}{q:Pos}{r:Z0}
section
variable{Z E A B:Type}[Xo Z][Xo A]
theorem Sy.se{m m':Option B}{f f':B->Option Z}(e:m'=m)(k:∀x,m=some x->Sy T q (f x) (f' x)):Sy T q (m.bind f) (m'.bind f'):=by rw[e];exact .sk k
theorem Sy.ne{y y':Option (Except E A)}(hn:∀x,y=some (.ok x)->r.l≠[])(k:r.l≠[]->Sy T q y y'):Sy T q y y':=by
 by_cases hl:r.l=[]
 . intro z e;cases z with
   |error x=>exact .inl trivial
   |ok x=>exact absurd hl (hn x e)
 . exact k hl
theorem Sy.po{f f':Pos->Option Z}(k:r.l≠[] ->∀p,Sy T q (f p) (f' p))(n:r.l=[] ->∀p,Nk (f p)):Sy T q ((K6 r).bind f) ((K6 (xr T q r)).bind f'):=by
 by_cases hl:r.l=[]
 . exact .nk (.sk fun p _=>n hl p)
 . exact .se (Y5x hl) fun p _=>k hl p
end
theorem Z3r{x:F9×Z0}(e:U6 r=some (.ok x)):r.l≠[]:=by
 rintro hl;obtain⟨l,p,d⟩:=r;subst hl;cases e
theorem Z3d(h:Tz T):Sy T q (U6 r) (U6 (xr T q r)):=by
 refine Sy.ne (r:=r) (fun x=>Z3r) fun hl=>?_;unfold U6
 dsimp only[jn]
 refine Sy.se (X1c h hl) fun b _=>Sy.cd (.nk (X0r fun e=> .er)) ?_;obtain⟨l,p,d⟩:=r;cases l with
 |nil=>exact absurd rfl hl
 |cons t l=>
  dsimp only
  rw[show(xr T q ⟨t::l,p,d⟩).l=t::(l++T)from rfl,show idx (t::l) 0=some t from rfl,show idx (t::(l++T)) 0=some t from rfl,qV,qV,show sub (t::l) 1 ((t::l).length:Int)=some l from Q8s t l,show sub (t::(l++T)) 1 ((t::(l++T)).length:Int)=some (l++T)from Q8s _ _,qV,qV]
  have lp:∀(x:F9)(s:Z0),Sy T q ((X8 (fun(x3,x4)=>((Y9 x4 ([42]:List UInt8)).bind fun y4=>bif y4.1 then(some (Lp.go ({x3 with Stars:=qJ .i64 (x3.Stars+1)},y4.2)))else(some (Lp.brk (x3,y4.2))):Option (Lp (F9×Z0) (Unit)))) NN (x,s)).bind fun o=>o.thn (fun(x3,x4)=>some (qX (ε:=Z6×Z0) (x3,x4))) (fun _=>none)) ((X8 (fun(x3,x4)=>((Y9 x4 ([42]:List UInt8)).bind fun y4=>bif y4.1 then(some (Lp.go ({x3 with Stars:=qJ .i64 (x3.Stars+1)},y4.2)))else(some (Lp.brk (x3,y4.2))):Option (Lp (F9×Z0) (Unit)))) NN (x,xr T q s)).bind fun o=>o.thn (fun(x3,x4)=>some (qX (ε:=Z6×Z0) (x3,x4))) (fun _=>none)):=fun x s=>
   Sy.tn (Sy.lp (fun s=>Sy.st (Q0t h (by decide)) fun x _=>Sy.cd .ok .ok) NN (x,s)) (fun x=> .ok) (fun x=> .none) (fun x hx=> .none)
  exact Sy.cd (Sy.bx (Q6g (r:=⟨l,p,d⟩) h) (fun x _=>lp _ _) fun e=> .er) (lp _ ⟨l,p,d⟩)
theorem dims_x(h:Tz T):Sy T q (W4 r) (W4 (xr T q r)):=by
 unfold W4;refine Sy.tn (Sy.lp (fun s=>?_) NN ([],r)) (fun x=> .ok) (fun x=>?_) (fun x hx=>?_)
 . refine Sy.st (Q0t h (by decide)) fun x _=>Sy.cd (Sy.bx (Q6h h) (fun x _=>Sy.sk fun _ _=>Sy.bx (Q1f h (by decide)) (fun x _=> .ok) fun e=> .er) fun e=> .er) .ok
 . exact .ok
 . exact fun z e=>by cases e;exact hx
structure X1(T:List X5)(q:Pos)(n:Nat):Prop where
 bracketed:∀r,Sy T q ((C6 n).U2 r) ((C6 n).U2 (xr T q r))
 handed:∀r,Sy T q ((C6 n).J6 r) ((C6 n).J6 (xr T q r))
 prime:∀r,Sy T q ((C6 n).P4 r) ((C6 n).P4 (xr T q r))
 post:∀r,Sy T q ((C6 n).D8 r) ((C6 n).D8 (xr T q r))
 unary:∀r,Sy T q ((C6 n).J8 r) ((C6 n).J8 (xr T q r))
 binary:∀r k,Sy T q ((C6 n).G3 r k) ((C6 n).G3 (xr T q r) k)
 cond:∀r,Sy T q ((C6 n).E7 r) ((C6 n).E7 (xr T q r))
 assign:∀r,Sy T q ((C6 n).X6 r) ((C6 n).X6 (xr T q r))
 ne:(∀r x,(C6 n).P4 r=some (.ok x)->r.l≠[])/\(∀r x,(C6 n).D8 r=some (.ok x)->r.l≠[])/\(∀r x,(C6 n).J8 r=some (.ok x)->r.l≠[])/\(∀r k x,(C6 n).G3 r k=some (.ok x)->r.l≠[])/\(∀r x,(C6 n).E7 r=some (.ok x)->r.l≠[])/\(∀r x,(C6 n).X6 r=some (.ok x)->r.l≠[])
section
variable{n:Nat}
theorem Y9o(h:Tz T)(g:X1 T q n):∀r,Sy T q (M8 (C6 n) r) (M8 (C6 n) (xr T q r)):=by
 intro r;unfold M8
 repeat'(first|exact Sy.ok|exact Sy.er|exact Sy.none|exact Nk.er|exact Nk.none|refine Sy.cd ?_ ?_|refine Sy.st (Q0t h (by decide)) (fun x _=>?_)|refine Sy.bx (Q1f h (by decide)) (fun x _=>?_) (fun e=>?_)|refine Sy.bx (Q6g h) (fun x _=>?_) (fun e=>?_)|refine Sy.bx (Q6h h) (fun x _=>?_) (fun e=>?_)|refine Sy.se (Z2t h (by decide)) (fun x _=>?_)|refine Sy.se (Q8p h) (fun x _=>?_)|refine Sy.st (Q0l h) (fun x _=>?_)|refine Sy.bx (g.assign _) (fun x _=>?_) (fun e=>?_)|refine Sy.sk fun x _=>?_)
theorem handed_x(h:Tz T)(g:X1 T q n):∀r,Sy T q (L2 (C6 n) r) (L2 (C6 n) (xr T q r)):=by
 intro r;unfold L2;refine Sy.bx (Q1f h (by decide)) (fun x _=>Sy.st (Q0t h (by decide)) fun y _=>Sy.cd .ok (Sy.bx (g.assign _) (fun z _=>?_) fun e=> .er)) fun e=> .er;refine Sy.tn (Sy.lp (fun s=>?_) NN ([z.1],z.2)) (fun x=>?_) (fun x=> .ok) (fun x hx=>fun z e=>by cases e;exact hx)
 all_goals repeat'(first|exact Sy.ok|exact Sy.er|exact Sy.none|exact Nk.er|exact Nk.none|refine Sy.cd ?_ ?_|refine Sy.st (Q0t h (by decide)) (fun x _=>?_)|refine Sy.bx (Q1f h (by decide)) (fun x _=>?_) (fun e=>?_)|refine Sy.bx (Q6g h) (fun x _=>?_) (fun e=>?_)|refine Sy.bx (Q6h h) (fun x _=>?_) (fun e=>?_)|refine Sy.se (Z2t h (by decide)) (fun x _=>?_)|refine Sy.se (Q8p h) (fun x _=>?_)|refine Sy.st (Q0l h) (fun x _=>?_)|refine Sy.bx (g.assign _) (fun x _=>?_) (fun e=>?_)|refine Sy.sk fun x _=>?_)
theorem cond_x(h:Tz T)(g:X1 T q n):∀r,Sy T q (S0 (C6 n) r) (S0 (C6 n) (xr T q r)):=by
 intro r;unfold S0
 repeat'(first|exact Sy.ok|exact Sy.er|exact Sy.none|exact Nk.er|exact Nk.none|refine Sy.cd ?_ ?_|refine Sy.st (Q0t h (by decide)) (fun x _=>?_)|refine Sy.bx (Q1f h (by decide)) (fun x _=>?_) (fun e=>?_)|refine Sy.bx (Q6g h) (fun x _=>?_) (fun e=>?_)|refine Sy.bx (Q6h h) (fun x _=>?_) (fun e=>?_)|refine Sy.se (Z2t h (by decide)) (fun x _=>?_)|refine Sy.se (Q8p h) (fun x _=>?_)|refine Sy.st (Q0l h) (fun x _=>?_)|refine Sy.bx (g.binary _ _) (fun x _=>?_) (fun e=>?_)|refine Sy.bx (g.assign _) (fun x _=>?_) (fun e=>?_)|refine Sy.bx (g.cond _) (fun x _=>?_) (fun e=>?_)|refine Sy.bx Y1k (fun x _=>?_) (fun e=>?_)|exact Sy.st (fun x e=>by cases e;rfl) (fun x e=>Sy.ok)|refine Sy.sk fun x _=>?_)
theorem assign_x(h:Tz T)(g:X1 T q n):∀r,Sy T q (L4 (C6 n) r) (L4 (C6 n) (xr T q r)):=by
 intro r;unfold L4
 repeat'(first|exact Sy.ok|exact Sy.er|exact Sy.none|exact Nk.er|exact Nk.none|refine Sy.cd ?_ ?_|refine Sy.st (Q0t h (by decide)) (fun x _=>?_)|refine Sy.bx (Q1f h (by decide)) (fun x _=>?_) (fun e=>?_)|refine Sy.bx (Q6g h) (fun x _=>?_) (fun e=>?_)|refine Sy.bx (Q6h h) (fun x _=>?_) (fun e=>?_)|refine Sy.se (Z2t h (by decide)) (fun x _=>?_)|refine Sy.se (Q8p h) (fun x _=>?_)|refine Sy.st (Q0l h) (fun x _=>?_)|refine Sy.bx (g.assign _) (fun x _=>?_) (fun e=>?_)|refine Sy.bx (g.cond _) (fun x _=>?_) (fun e=>?_)|refine Sy.bx Y1k (fun x _=>?_) (fun e=>?_)|refine Sy.sk fun x _=>?_)
theorem binary_x(h:Tz T)(g:X1 T q n):∀r k,Sy T q (L3 (C6 n) r k) (L3 (C6 n) (xr T q r) k):=by
 intro r k;unfold L3;refine Sy.bx (g.unary _) (fun x _=>?_) fun e=> .er;refine Sy.tn (Sy.lp (fun s=>?_) NN (x.1,x.2)) (fun x=> .none) (fun x=> .ok) (fun x hx=>fun z e=>by cases e;exact hx)
 repeat'(first|exact Sy.ok|exact Sy.er|exact Sy.none|exact Nk.er|exact Nk.none|refine Sy.cd ?_ ?_|refine Sy.st (Q0t h (by decide)) (fun x _=>?_)|refine Sy.bx (Q1f h (by decide)) (fun x _=>?_) (fun e=>?_)|refine Sy.bx (Q6g h) (fun x _=>?_) (fun e=>?_)|refine Sy.bx (Q6h h) (fun x _=>?_) (fun e=>?_)|refine Sy.se (Z2t h (by decide)) (fun x _=>?_)|refine Sy.se (Q8p h) (fun x _=>?_)|refine Sy.st (Q0l h) (fun x _=>?_)|refine Sy.bx (g.binary _ _) (fun x _=>?_) (fun e=>?_)|refine Sy.sk fun x _=>?_)
theorem post_x(h:Tz T)(g:X1 T q n):∀r,Sy T q (R7 (C6 n) r) (R7 (C6 n) (xr T q r)):=by
 intro r;unfold R7;refine Sy.bx (g.prime _) (fun x _=>?_) fun e=> .er;refine Sy.tn (Sy.lp (fun s=>?_) NN (x.1,x.2)) (fun x=> .none) (fun x=> .ok) (fun x hx=>fun z e=>by cases e;exact hx)
 dsimp only[jn]
 repeat'(first|exact Sy.ok|exact Sy.er|exact Sy.none|exact Nk.er|exact Nk.none|refine Sy.cd ?_ ?_|refine Sy.st (Q0t h (by decide)) (fun x _=>?_)|refine Sy.bx (Q1f h (by decide)) (fun x _=>?_) (fun e=>?_)|refine Sy.bx (Q6g h) (fun x _=>?_) (fun e=>?_)|refine Sy.bx (Q6h h) (fun x _=>?_) (fun e=>?_)|refine Sy.se (Z2t h (by decide)) (fun x _=>?_)|refine Sy.se (Q8p h) (fun x _=>?_)|refine Sy.st (Q0l h) (fun x _=>?_)|refine Sy.bx (g.assign _) (fun x _=>?_) (fun e=>?_)|refine Sy.sk fun x _=>?_)
theorem unary_x(h:Tz T)(g:X1 T q n)(hn:∀r x,N1 (C6 n) r=some (.ok x)->r.l≠[]):∀r,Sy T q (N1 (C6 n) r) (N1 (C6 n) (xr T q r)):=by
 intro r;refine .ne (hn r) fun hl=>?_;unfold N1;refine Sy.bx Y1k (fun x hx=>?_) (fun e=> .er);have hx:x.l≠[]:=by rw[Z8l hx];exact hl
 dsimp only[jn]
 repeat'(first|exact Sy.ok|exact Sy.er|exact Sy.none|exact Nk.er|exact Nk.none|refine Sy.cd ?_ ?_|refine Sy.st (Q0t h (by decide)) (fun x _=>?_)|refine Sy.bx (Q1f h (by decide)) (fun x _=>?_) (fun e=>?_)|refine Sy.bx (Q6g h) (fun x _=>?_) (fun e=>?_)|refine Sy.bx (Q6h h) (fun x _=>?_) (fun e=>?_)|refine Sy.se (Z2t h (by decide)) (fun x _=>?_)|refine Sy.se (Q8p h) (fun x _=>?_)|refine Sy.st (Q0l h) (fun x _=>?_)|refine Sy.se (Y5x hx) (fun x _=>?_)|refine Sy.bx (g.unary _) (fun x _=>?_) (fun e=>?_)|refine Sy.bx (g.post _) (fun x _=>?_) (fun e=>?_)|refine Sy.bx (Z3d h) (fun x _=>?_) (fun e=>?_)|refine Sy.sk fun x _=>?_)
theorem prime_x(h:Tz T)(g:X1 T q n)(hn:∀r x,M9 (C6 n) r=some (.ok x)->r.l≠[]):∀r,Sy T q (M9 (C6 n) r) (M9 (C6 n) (xr T q r)):=by
 intro r;refine .ne (hn r) fun hl=>?_;unfold M9
 dsimp only[jn]
 refine Sy.se (Y5x hl) (fun p _=>?_);refine Sy.st (Q0t h (by decide)) fun a _=>Sy.cd (Sy.bx (g.assign _) (fun x _=>Sy.bx (Q1f h (by decide)) (fun x _=> .ok) fun e=> .er) fun e=> .er) ?_;refine Sy.st (Q0t h (by decide)) fun a _=>Sy.cd (Sy.bx (Q1f h (by decide)) (fun x _=>Sy.bx (Q1f h (by decide)) (fun x _=> .ok) fun e=> .er) fun e=> .er) ?_;refine Sy.st (Q0t h (by decide)) fun a _=>Sy.cd (Sy.bx (g.bracketed _) (fun x _=> .ok) fun e=> .er) ?_
 have nm:∀s:Z0,Sy T q ((V6 s).bind fun y11=>exE y11 (fun y11=>(V0 y11.2 ([40]:List UInt8)).bind fun y12=>bif y12 then(((C6 n).J6 y11.2).bind fun y13=>exE y13 (fun y13=>some (qX ((⟨7,p,([]:List UInt8),y11.1,0,(⟨([]:List UInt8),([]:List UInt8),0⟩:F9),y13.1⟩:Y2),y13.2))))else(some (qX ((⟨2,p,([]:List UInt8),y11.1,0,(⟨([]:List UInt8),([]:List UInt8),0⟩:F9),[]⟩:Y2),y11.2))))) ((V6 (xr T q s)).bind fun y11=>exE y11 (fun y11=>(V0 y11.2 ([40]:List UInt8)).bind fun y12=>bif y12 then(((C6 n).J6 y11.2).bind fun y13=>exE y13 (fun y13=>some (qX ((⟨7,p,([]:List UInt8),y11.1,0,(⟨([]:List UInt8),([]:List UInt8),0⟩:F9),y13.1⟩:Y2),y13.2))))else(some (qX ((⟨2,p,([]:List UInt8),y11.1,0,(⟨([]:List UInt8),([]:List UInt8),0⟩:F9),[]⟩:Y2),y11.2))))):=fun s=>
  Sy.bx (Q6g h) (fun x _=>Sy.se (Z2t h (by decide)) fun b _=>Sy.cd (Sy.bx (g.handed _) (fun x _=> .ok) fun e=> .er) .ok) fun e=> .er
 obtain⟨b,⟨l,e,d⟩⟩:=a;cases l with
 |nil=>exact .nk (.cd (.sk fun x hx=>by cases hx) (.bx (fun x hx=>absurd rfl (name_ne hx)) fun e=> .er))
 |cons t l=>
  dsimp only
  rw[show(exo T q (b,(⟨t::l,e,d⟩:Z0))).2.l=t::(l++T)from rfl,show idx (t::l) 0=some t from rfl,show idx (t::(l++T)) 0=some t from rfl,dt (show(0:Int)<((t::l).length:Int) by simp only[qY];omega),dt (show(0:Int)<((t::(l++T)).length:Int) by simp only[qY];omega)]
  simp only[cond_true,qV]
  exact Sy.cd (Sy.bx (Q6h (r:=⟨t::l,e,d⟩) h) (fun x _=> .ok) fun e=> .er) (nm ⟨t::l,e,d⟩)
theorem Y8p(r:Z0)(x:Y2×Z0)(e:M9 (C6 n) r=some (.ok x)):r.l≠[]:=by
 rintro hl;obtain⟨l,p,d⟩:=r;subst hl;cases e
end
open Xo
variable{T:List X5}{q:Pos}{r:Z0}
theorem ok1{E A E' B:Type}{m:Option (Except E A)}{f:A->Option (Except E' B)}{k:E->Option (Except E' B)}{x:B}(hk:∀e,k e≠some (.ok x))(e:(m.bind fun y=>exC y f k)=some (.ok x)):∃a,m=some (.ok a)/\f a=some (.ok x):=by
 cases m with
 |none=>cases e
 |some y=>
  cases y with
  |error z=>exact absurd e (hk z)
  |ok a=>exact⟨a,rfl,e⟩
section
variable{n:Nat}
theorem unary_ne(g:X1 T q n)(r:Z0)(x:Y2×Z0)(e:N1 (C6 n) r=some (.ok x)):r.l≠[]:=by
 intro hl;unfold N1 at e;obtain⟨y,h1,e⟩:=ok1 (fun e h=>by cases h) e;have h2:=Z8l h1;rw[hl]at h2;obtain⟨l,p,d⟩:=y
 dsimp only at h2
 subst h2;have e:(((C6 n).D8 ⟨[],p,d⟩).bind fun y12=>exC y12 (fun y12=>some (qX (y12.1,{y12.2 with depth:=qJ .i64 (y12.2.depth-1)}))) (fun e6=>some (qK (e6.1,{e6.2 with depth:=qJ .i64 (e6.2.depth-1)}))))=some (.ok x):=e;obtain⟨y,h3,_⟩:=ok1 (fun e h=>by cases h) e;exact g.ne.2.1 _ _ h3 rfl
theorem rdX1(h:Tz T):∀n,X1 T q n:=by
 intro n
 induction n with
 |zero=>exact⟨(fun r z e=>by cases e),(fun r z e=>by cases e),(fun r z e=>by cases e),(fun r z e=>by cases e),(fun r z e=>by cases e),(fun r k z e=>by cases e),(fun r z e=>by cases e),(fun r z e=>by cases e),(fun r x e=>by cases e),(fun r x e=>by cases e),(fun r x e=>by cases e),(fun r k x e=>by cases e),(fun r x e=>by cases e),(fun r x e=>by cases e)⟩
 |succ n g=>
  have un:=unary_ne g
  exact⟨Y9o h g,handed_x h g,prime_x h g Y8p,post_x h g,unary_x h g un,binary_x h g,cond_x h g,assign_x h g,
   Y8p,fun r x e=>by obtain⟨y,h1,_⟩:=ok1 (fun e h=>by cases h) e;exact g.ne.1 _ _ h1,
   un,fun r k x e=>by obtain⟨y,h1,_⟩:=ok1 (fun e h=>by cases h) e;exact g.ne.2.2.1 _ _ h1,
   fun r x e=>by obtain⟨y,h1,_⟩:=ok1 (fun e h=>by cases h) e;exact g.ne.2.2.2.1 _ _ _ h1,
   fun r x e=>by
    obtain⟨y,h1,e⟩:=ok1 (fun e h=>by cases h) e;obtain⟨z,h2,_⟩:=ok1 (fun e h=>by cases h) e;rw[<-Z8l h1];exact g.ne.2.2.2.2.1 _ _ h2⟩
end
theorem Y3c(h:Tz T)(r:Z0):Sy T q (X6 r) (X6 (xr T q r)):=(rdX1 h NN).assign r
theorem X3e(h:Tz T){x:Y2×Z0}(e:X6 r=some (.ok x)):r.l≠[]:=(rdX1 (q:=⟨0,0⟩) h NN).ne.2.2.2.2.2 r x e
theorem X0u(h:Tz T)(r:Z0):Sy T q (U2 r) (U2 (xr T q r)):=(rdX1 h NN).bracketed r
theorem Y9r(h:Tz T)(r:Z0)(v:G9):Sy T q (E4 r v) (E4 (xr T q r) v):=by
 unfold E4
 dsimp only[jn]
 refine Sy.bx (dims_x h) (fun a _=>Sy.st (Q0t h (by decide)) fun b _=>Sy.cd (Sy.st (Q0t h (by decide)) fun c _=>Sy.bx (Y3c h _) (fun d _=>Sy.sk fun _ _=>?_) fun e=> .er) ?_) (fun e=> .er)
 . refine Sy.tn (Sy.lp (fun s=>?_) NN ({v with Dims:=a.1,Init:=([]:List Y2)++([d.1]:List Y2),Brace:=c.1},d.2)) (fun x=>?_) (fun x=> .ok) (fun x hx=>fun z e=>by cases e;exact hx)
   all_goals repeat'(first|exact Sy.ok|exact Sy.er|exact Sy.none|exact Nk.er|exact Nk.none|refine Sy.cd ?_ ?_|refine Sy.st (Q0t h (by decide)) (fun x _=>?_)|refine Sy.bx (Q1f h (by decide)) (fun x _=>?_) (fun e=>?_)|refine Sy.bx (Q6g h) (fun x _=>?_) (fun e=>?_)|refine Sy.bx (Q6h h) (fun x _=>?_) (fun e=>?_)|refine Sy.se (Z2t h (by decide)) (fun x _=>?_)|refine Sy.se (Q8p h) (fun x _=>?_)|refine Sy.st (Q0l h) (fun x _=>?_)|refine Sy.bx (Y3c h _) (fun x _=>?_) (fun e=>?_)|refine Sy.sk fun x _=>?_)
 . repeat'(first|exact Sy.ok|exact Sy.er|exact Sy.none|exact Nk.er|exact Nk.none|refine Sy.cd ?_ ?_|refine Sy.st (Q0t h (by decide)) (fun x _=>?_)|refine Sy.bx (Q1f h (by decide)) (fun x _=>?_) (fun e=>?_)|refine Sy.bx (Q6g h) (fun x _=>?_) (fun e=>?_)|refine Sy.bx (Q6h h) (fun x _=>?_) (fun e=>?_)|refine Sy.se (Z2t h (by decide)) (fun x _=>?_)|refine Sy.se (Q8p h) (fun x _=>?_)|refine Sy.st (Q0l h) (fun x _=>?_)|refine Sy.sk fun x _=>?_)
theorem Y9w(h:Tz T)(r:Z0):Sy T q (L1 r) (L1 (xr T q r)):=by
 unfold L1;refine Sy.po (fun hl p=>?_) (fun hl p=> .bx (fun x hx=>absurd hl (Z3r hx)) fun e=> .er);exact Sy.bx (Z3d h) (fun x _=>Sy.bx (Q6g h) (fun x _=>Sy.bx (Y9r h _ _) (fun x _=> .ok) fun e=> .er) fun e=> .er) fun e=> .er
theorem fields_x(h:Tz T)(r:Z0):Sy T q (R9 r) (R9 (xr T q r)):=by
 unfold R9;refine Sy.bx (Q1f h (by decide)) (fun a _=>?_) (fun e=> .er);refine Sy.tn (Sy.lp (fun s=>?_) NN ([],a)) (fun x=>?_) (fun x=> .ok) (fun x hx=>fun z e=>by cases e;exact hx)
 . refine Sy.st (Q0t h (by decide)) fun x _=>Sy.cd (Sy.po (fun hl p=>?_) (fun hl p=> .bx (fun x hx=>absurd hl (Z3r hx)) fun e=> .er)) .ok
   repeat'(first|exact Sy.ok|exact Sy.er|exact Sy.none|exact Nk.er|exact Nk.none|refine Sy.cd ?_ ?_|refine Sy.st (Q0t h (by decide)) (fun x _=>?_)|refine Sy.bx (Q1f h (by decide)) (fun x _=>?_) (fun e=>?_)|refine Sy.bx (Q6g h) (fun x _=>?_) (fun e=>?_)|refine Sy.bx (Q6h h) (fun x _=>?_) (fun e=>?_)|refine Sy.se (Z2t h (by decide)) (fun x _=>?_)|refine Sy.se (Q8p h) (fun x _=>?_)|refine Sy.st (Q0l h) (fun x _=>?_)|refine Sy.bx (Z3d h) (fun x _=>?_) (fun e=>?_)|refine Sy.bx (dims_x h) (fun x _=>?_) (fun e=>?_)|refine Sy.sk fun x _=>?_)
 . repeat'(first|exact Sy.ok|exact Sy.er|exact Sy.none|exact Nk.er|exact Nk.none|refine Sy.cd ?_ ?_|refine Sy.st (Q0t h (by decide)) (fun x _=>?_)|refine Sy.bx (Q1f h (by decide)) (fun x _=>?_) (fun e=>?_)|refine Sy.bx (Q6g h) (fun x _=>?_) (fun e=>?_)|refine Sy.bx (Q6h h) (fun x _=>?_) (fun e=>?_)|refine Sy.se (Z2t h (by decide)) (fun x _=>?_)|refine Sy.se (Q8p h) (fun x _=>?_)|refine Sy.st (Q0l h) (fun x _=>?_)|refine Sy.sk fun x _=>?_)
theorem params_x(h:Tz T)(r:Z0):Sy T q (M6 r) (M6 (xr T q r)):=by
 unfold M6
 dsimp only[jn]
 have lp:∀s:Z0,Sy T q ((Y9 s ([41]:List UInt8)).bind fun y5=>bif y5.1 then(some (qX (ε:=Z6×Z0) ([],y5.2)))else((X8 (fun(x2,x3)=>((K6 x3).bind fun y6=>(U6 x3).bind fun y7=>exL y7 (fun y7=>(V6 y7.2).bind fun y8=>exL y8 (fun y8=>(W8 (qQ x2+qQ ([(⟨y6,y7.1,y8.1,[],[],false⟩:G9)]:List G9))).bind fun _=>(Y9 y8.2 ([44]:List UInt8)).bind fun y9=>bif !y9.1 then((Y7 y9.2 ([41]:List UInt8)).bind fun y10=>exL y10 (fun y10=>some (Lp.ret (qX (x2++([(⟨y6,y7.1,y8.1,[],[],false⟩:G9)]:List G9),y10)))))else(some (Lp.go (x2++([(⟨y6,y7.1,y8.1,[],[],false⟩:G9)]:List G9),y9.2))))):Option (Lp ((List G9)×Z0) (Except (Z6×Z0) ((List G9)×Z0))))) NN ([],y5.2)).bind fun o=>o.thn (fun(x2,x3)=>none) (fun r=>some r))) ((Y9 (xr T q s) ([41]:List UInt8)).bind fun y5=>bif y5.1 then(some (qX (ε:=Z6×Z0) ([],y5.2)))else((X8 (fun(x2,x3)=>((K6 x3).bind fun y6=>(U6 x3).bind fun y7=>exL y7 (fun y7=>(V6 y7.2).bind fun y8=>exL y8 (fun y8=>(W8 (qQ x2+qQ ([(⟨y6,y7.1,y8.1,[],[],false⟩:G9)]:List G9))).bind fun _=>(Y9 y8.2 ([44]:List UInt8)).bind fun y9=>bif !y9.1 then((Y7 y9.2 ([41]:List UInt8)).bind fun y10=>exL y10 (fun y10=>some (Lp.ret (qX (x2++([(⟨y6,y7.1,y8.1,[],[],false⟩:G9)]:List G9),y10)))))else(some (Lp.go (x2++([(⟨y6,y7.1,y8.1,[],[],false⟩:G9)]:List G9),y9.2))))):Option (Lp ((List G9)×Z0) (Except (Z6×Z0) ((List G9)×Z0))))) NN ([],y5.2)).bind fun o=>o.thn (fun(x2,x3)=>none) (fun r=>some r))):=by
  intro s;refine Sy.st (Q0t h (by decide)) fun b _=>Sy.cd .ok ?_;refine Sy.tn (Sy.lp (fun s=>?_) NN ([],b.2)) (fun x=> .none) (fun x=> .ok) (fun x hx=>fun z e=>by cases e;exact hx);refine Sy.po (fun hl p=>?_) (fun hl p=> .bx (fun x hx=>absurd hl (Z3r hx)) fun e=> .er)
  repeat'(first|exact Sy.ok|exact Sy.er|exact Sy.none|exact Nk.er|exact Nk.none|refine Sy.cd ?_ ?_|refine Sy.st (Q0t h (by decide)) (fun x _=>?_)|refine Sy.bx (Q1f h (by decide)) (fun x _=>?_) (fun e=>?_)|refine Sy.bx (Q6g h) (fun x _=>?_) (fun e=>?_)|refine Sy.bx (Q6h h) (fun x _=>?_) (fun e=>?_)|refine Sy.se (Z2t h (by decide)) (fun x _=>?_)|refine Sy.se (Q8p h) (fun x _=>?_)|refine Sy.st (Q0l h) (fun x _=>?_)|refine Sy.bx (Z3d h) (fun x _=>?_) (fun e=>?_)|refine Sy.sk fun x _=>?_)
 refine Sy.bx (Q1f h (by decide)) (fun a _=>?_) (fun e=> .er);refine Sy.se (Z2t h (by decide)) fun b _=>Sy.cd (Sy.se (X0i h 1 (by decide) _ (.inr (.inl rfl))) fun c _=>Sy.cd (Sy.bx (Q1f h (by decide)) (fun x _=>lp _) fun e=> .er) (lp _)) (lp _)
theorem Y5y(h:Tz T)(r:Z0){m:List UInt8}(hm:m≠intW):Sy T q (N2 r m) (N2 (xr T q r) m):=by
 unfold N2;exact Sy.st (Q0t h hm) fun x _=>Sy.cd .ok (Sy.bx (Y3c h _) (fun x _=>Sy.bx (Q1f h hm) (fun x _=> .ok) fun e=> .er) fun e=> .er)
theorem short_x(h:Tz T)(r:Z0)(s:E0):Sy T q (I8 r s) (I8 (xr T q r) s):=by
 unfold I8
 repeat'(first|exact Sy.ok|exact Sy.er|exact Sy.none|exact Nk.er|exact Nk.none|refine Sy.cd ?_ ?_|refine Sy.st (Q0t h (by decide)) (fun x _=>?_)|refine Sy.bx (Q1f h (by decide)) (fun x _=>?_) (fun e=>?_)|refine Sy.bx (Q6g h) (fun x _=>?_) (fun e=>?_)|refine Sy.bx (Q6h h) (fun x _=>?_) (fun e=>?_)|refine Sy.se (Z2t h (by decide)) (fun x _=>?_)|refine Sy.se (Q8p h) (fun x _=>?_)|refine Sy.st (Q0l h) (fun x _=>?_)|refine Sy.bx (Y3c h _) (fun x _=>?_) (fun e=>?_)|refine Sy.bx (Y5y h _ (by decide)) (fun x _=>?_) (fun e=>?_)|refine Sy.sk fun x _=>?_)
open Xo
variable{T:List X5}{q:Pos}{r:Z0}
structure X2(T:List X5)(q:Pos)(n:Nat):Prop where
 body:∀r,Sy T q ((Q5s n).J2 r) ((Q5s n).J2 (xr T q r))
 cases_:∀r,Sy T q ((Q5s n).M4 r) ((Q5s n).M4 (xr T q r))
 stmt:∀r,Sy T q ((Q5s n).J9 r) ((Q5s n).J9 (xr T q r))
 block:∀r,Sy T q ((Q5s n).J0 r) ((Q5s n).J0 (xr T q r))
section
variable{n:Nat}
theorem body_x(h:Tz T)(g:X2 T q n):∀r,Sy T q (S4 (Q5s n) r) (S4 (Q5s n) (xr T q r)):=by
 intro r;unfold S4;exact Sy.bx (g.stmt _) (fun x _=>Sy.cd .ok .ok) fun e=> .er
theorem block_x(h:Tz T)(g:X2 T q n):∀r,Sy T q (O9 (Q5s n) r) (O9 (Q5s n) (xr T q r)):=by
 intro r;unfold O9;refine Sy.bx (Q1f h (by decide)) (fun a _=>?_) (fun e=> .er);refine Sy.tn (Sy.lp (fun s=>?_) NN ([],a)) (fun x=> .ok) (fun x=> .ok) (fun x hx=>fun z e=>by cases e;exact hx)
 repeat'(first|exact Sy.ok|exact Sy.er|exact Sy.none|exact Nk.er|exact Nk.none|refine Sy.cd ?_ ?_|refine Sy.st (Q0t h (by decide)) (fun x _=>?_)|refine Sy.bx (Q1f h (by decide)) (fun x _=>?_) (fun e=>?_)|refine Sy.bx (Q6g h) (fun x _=>?_) (fun e=>?_)|refine Sy.bx (Q6h h) (fun x _=>?_) (fun e=>?_)|refine Sy.se (Z2t h (by decide)) (fun x _=>?_)|refine Sy.se (Q8p h) (fun x _=>?_)|refine Sy.st (Q0l h) (fun x _=>?_)|refine Sy.bx (g.stmt _) (fun x _=>?_) (fun e=>?_)|refine Sy.bx (g.body _) (fun x _=>?_) (fun e=>?_)|refine Sy.bx (g.block _) (fun x _=>?_) (fun e=>?_)|refine Sy.bx (g.cases_ _) (fun x _=>?_) (fun e=>?_)|refine Sy.sk fun x _=>?_)
theorem cases_x(h:Tz T)(g:X2 T q n):∀r,Sy T q (O8 (Q5s n) r) (O8 (Q5s n) (xr T q r)):=by
 intro r;unfold O8
 dsimp only[jn]
 refine Sy.bx (Q1f h (by decide)) (fun a _=>?_) (fun e=> .er);refine Sy.tn (Sy.lp (fun s=>?_) NN ([],a)) (fun x=> .ok) (fun x=> .ok) (fun x hx=>fun z e=>by cases e;exact hx);refine Sy.st (Q0t h (by decide)) fun b _=>Sy.cd (Sy.po (fun hl p=>?_) (fun hl p=>?_)) .ok
 . repeat'(first|exact Sy.ok|exact Sy.er|exact Nk.er|refine Sy.cd ?_ ?_|refine Sy.st (Q0t h (by decide)) (fun x _=>?_)|refine Sy.bx (Q1f h (by decide)) (fun x _=>?_) (fun e=>?_)|refine Sy.bx (Q6h h) (fun x _=>?_) (fun e=>?_)|refine Sy.se (Z2t h (by decide)) (fun x _=>?_)|refine Sy.bx (g.stmt _) (fun x _=>?_) (fun e=>?_)|refine Sy.tn (Sy.lp (fun s=>?_) NN _) (fun x=>?_) (fun x=> .ok) (fun x hx=>fun z e=>by cases e;exact hx)|refine Sy.sk fun x _=>?_)
 . obtain⟨y,⟨l,e,d⟩⟩:=b
   dsimp only at hl
   subst hl
   dsimp only
   rw[take_nil,qV]
   dsimp only[cond_false]
   exact Nk.bx (fun x hx=>absurd rfl (must_ne (r:=⟨[],e,d⟩) hx)) fun e=> .er
theorem short_ne(h:Tz T){s:E0}{x:Z0×E0}(e:I8 r s=some (.ok x)):r.l≠[]:=by
 intro hl;obtain⟨l,p,d⟩:=r
 dsimp only at hl
 subst hl;have e:((X6 ⟨[],p,d⟩).bind fun y7=>exC y7 (fun y7=>(Y7 y7.2 ([59]:List UInt8)).bind fun y8=>exC y8 (fun y8=>some (qX (y8,{s with Kind:=1,A:=([y7.1]:List Y2)}))) (fun e4=>some (qK (e4.1,e4.2,{s with Kind:=1,A:=([y7.1]:List Y2)})))) (fun e5=>some (qK (e5.1,e5.2,s))))=some (.ok x):=e;obtain⟨y,h1,_⟩:=ok1 (fun e h=>by cases h) e;exact X3e h h1 rfl
theorem stmt_ne(h:Tz T)(r:Z0)(x:E0×Z0)(e:A9 (Q5s n) r=some (.ok x)):r.l≠[]:=by
 intro hl;unfold A9 at e;obtain⟨y,h1,e⟩:=ok1 (fun e h=>by cases h) e;have h2:=Z8l h1;rw[hl]at h2;obtain⟨l,p,d⟩:=y
 dsimp only at h2
 subst h2;have e:((I8 ⟨[],p,d⟩ (⟨0,p,[],[],[],[],[],[],[]⟩:E0)).bind fun y30=>exC y30 (fun y30=>some (qX (y30.2,{y30.1 with depth:=qJ .i64 (y30.1.depth-1)}))) (fun e19=>some (qK (e19.1,{e19.2.1 with depth:=qJ .i64 (e19.2.1.depth-1)}))))=some (.ok x):=e;obtain⟨y,h3,_⟩:=ok1 (fun e h=>by cases h) e;exact short_ne h h3 rfl
theorem stmt_x(h:Tz T)(g:X2 T q n):∀r,Sy T q (A9 (Q5s n) r) (A9 (Q5s n) (xr T q r)):=by
 intro r;refine .ne (stmt_ne h r) fun hl=>?_;unfold A9;refine Sy.bx Y1k (fun x hx=>?_) (fun e=> .er);have hx:x.l≠[]:=by rw[Z8l hx];exact hl
 dsimp only[jn]
 refine Sy.se (Y5x hx) fun p _=>Sy.se (X1c h hx) fun b _=>?_
 repeat'(first|exact Sy.ok|exact Sy.er|exact Sy.none|exact Nk.er|exact Nk.none|refine Sy.cd ?_ ?_|refine Sy.st (Q0t h (by decide)) (fun x _=>?_)|refine Sy.bx (Q1f h (by decide)) (fun x _=>?_) (fun e=>?_)|refine Sy.bx (Q6g h) (fun x _=>?_) (fun e=>?_)|refine Sy.bx (Q6h h) (fun x _=>?_) (fun e=>?_)|refine Sy.se (Z2t h (by decide)) (fun x _=>?_)|refine Sy.se (Q8p h) (fun x _=>?_)|refine Sy.st (Q0l h) (fun x _=>?_)|refine Sy.bx (g.stmt _) (fun x _=>?_) (fun e=>?_)|refine Sy.bx (g.body _) (fun x _=>?_) (fun e=>?_)|refine Sy.bx (g.block _) (fun x _=>?_) (fun e=>?_)|refine Sy.bx (g.cases_ _) (fun x _=>?_) (fun e=>?_)|refine Sy.bx (Y9w h _) (fun x _=>?_) (fun e=>?_)|refine Sy.bx (X0u h _) (fun x _=>?_) (fun e=>?_)|refine Sy.bx (Y5y h _ (by decide)) (fun x _=>?_) (fun e=>?_)|refine Sy.bx (short_x h _ _) (fun x _=>?_) (fun e=>?_)|refine Sy.sk fun x _=>?_)
theorem rdX2(h:Tz T):∀n,X2 T q n
 |0=>⟨(fun r z e=>by cases e),(fun r z e=>by cases e),(fun r z e=>by cases e),(fun r z e=>by cases e)⟩
 |n+1=>⟨body_x h (rdX2 h n),cases_x h (rdX2 h n),stmt_x h (rdX2 h n),block_x h (rdX2 h n)⟩
end
theorem blockX(h:Tz T)(r:Z0):Sy T q (J0 r) (J0 (xr T q r)):=(rdX2 h NN).block r
theorem outer_x(h:Tz T)(hl:r.l≠[])(p:K1):Sy T q (G5 r p) (G5 (xr T q r) p):=by
 unfold G5
 dsimp only[jn]
 refine Sy.se (Y5x hl) fun s _=>Sy.se (Z2t h (by decide)) fun b _=>?_
 repeat'(first|exact Sy.ok|exact Sy.er|exact Nk.er|refine Sy.cd ?_ ?_|refine Sy.se (X0i h 2 (by decide) _ (.inr (.inr rfl))) (fun x _=>?_)|refine Sy.bx (Q1f h (by decide)) (fun x _=>?_) (fun e=>?_)|refine Sy.bx (Q6g h) (fun x _=>?_) (fun e=>?_)|refine Sy.se (Z2t h (by decide)) (fun x _=>?_)|refine Sy.bx (fields_x h _) (fun x _=>?_) (fun e=>?_)|refine Sy.bx (Z3d h) (fun x _=>?_) (fun e=>?_)|refine Sy.bx (Y9r h _ _) (fun x _=>?_) (fun e=>?_)|refine Sy.bx (params_x h _) (fun x _=>?_) (fun e=>?_)|refine Sy.bx (blockX h _) (fun x _=>?_) (fun e=>?_)|refine Sy.sk fun x _=>?_)
open Xo
variable{T:List X5}{q:Pos}{r:Z0}
def fz(a b c d e:Pos):I1:=⟨a,⟨[105,110,116],[],0⟩,[122,122,57],[⟨b,⟨[105,110,116],[],0⟩,[97],[],[],false⟩],[⟨8,c,[⟨2,d,[],[97],0,⟨[],[],0⟩,[]⟩],[],[],[],[],[],[]⟩]⟩
theorem Q7h{t:X5}{k:Int}{w:List UInt8}(h:Z0z t=zw2 k w):∃p,t=⟨k,w,0,p⟩:=by
 obtain⟨a,b,c,d⟩:=t;have h1:a=k:=congrArg X5.Kind h;have h2:b=w:=congrArg X5.Text h;have h3:c=0:=congrArg X5.Num h;subst h1 h2 h3;exact⟨_,rfl⟩
theorem Tz.all(h:Tz T):∃a0 a1 a2 a3 a4 a5 a6 a7 a8 a9 a10:Pos,T=[⟨2,[105,110,116],0,a0⟩,⟨1,[122,122,57],0,a1⟩,⟨4,[40],0,a2⟩,⟨2,[105,110,116],0,a3⟩,⟨1,[97],0,a4⟩,⟨4,[41],0,a5⟩,⟨4,[123],0,a6⟩,⟨2,[114,101,116,117,114,110],0,a7⟩,⟨1,[97],0,a8⟩,⟨4,[59],0,a9⟩,⟨4,[125],0,a10⟩]:=by
 have h:=h.h;unfold ztk at h;obtain⟨t0,T,rfl,h0,h⟩:=List.map_eq_cons_iff.1 h;obtain⟨t1,T,rfl,h1,h⟩:=List.map_eq_cons_iff.1 h;obtain⟨t2,T,rfl,h2,h⟩:=List.map_eq_cons_iff.1 h;obtain⟨t3,T,rfl,h3,h⟩:=List.map_eq_cons_iff.1 h;obtain⟨t4,T,rfl,h4,h⟩:=List.map_eq_cons_iff.1 h;obtain⟨t5,T,rfl,h5,h⟩:=List.map_eq_cons_iff.1 h;obtain⟨t6,T,rfl,h6,h⟩:=List.map_eq_cons_iff.1 h;obtain⟨t7,T,rfl,h7,h⟩:=List.map_eq_cons_iff.1 h;obtain⟨t8,T,rfl,h8,h⟩:=List.map_eq_cons_iff.1 h;obtain⟨t9,T,rfl,h9,h⟩:=List.map_eq_cons_iff.1 h;obtain⟨t10,T,rfl,h10,h⟩:=List.map_eq_cons_iff.1 h;obtain rfl:=List.map_eq_nil_iff.1 h;obtain⟨a0,rfl⟩:=Q7h h0;obtain⟨a1,rfl⟩:=Q7h h1;obtain⟨a2,rfl⟩:=Q7h h2;obtain⟨a3,rfl⟩:=Q7h h3;obtain⟨a4,rfl⟩:=Q7h h4;obtain⟨a5,rfl⟩:=Q7h h5;obtain⟨a6,rfl⟩:=Q7h h6;obtain⟨a7,rfl⟩:=Q7h h7;obtain⟨a8,rfl⟩:=Q7h h8;obtain⟨a9,rfl⟩:=Q7h h9;obtain⟨a10,rfl⟩:=Q7h h10;exact⟨a0,a1,a2,a3,a4,a5,a6,a7,a8,a9,a10,rfl⟩
theorem zz_outer(a0 a1 a2 a3 a4 a5 a6 a7 a8 a9 a10 q:Pos)(p:K1)(hp:p.Funcs.length<=5000):G5 ⟨[⟨2,[105,110,116],0,a0⟩,⟨1,[122,122,57],0,a1⟩,⟨4,[40],0,a2⟩,⟨2,[105,110,116],0,a3⟩,⟨1,[97],0,a4⟩,⟨4,[41],0,a5⟩,⟨4,[123],0,a6⟩,⟨2,[114,101,116,117,114,110],0,a7⟩,⟨1,[97],0,a8⟩,⟨4,[59],0,a9⟩,⟨4,[125],0,a10⟩],q,0⟩ p=some (.ok (⟨[],q,0⟩,{p with Funcs:=p.Funcs++[fz a0 a3 a7 a8 a8]})):=by
 unfold G5;refine bnd (x:=a0) (by kernel_rfl) ?_;refine bnd (x:=false) (by kernel_rfl) ?_
 try dsimp only[exC,cond_false,cond_true,Bool.not_true,jn]
 refine bnd (x:= .ok (⟨[105,110,116],[],0⟩,⟨[⟨1,[122,122,57],0,a1⟩,⟨4,[40],0,a2⟩,⟨2,[105,110,116],0,a3⟩,⟨1,[97],0,a4⟩,⟨4,[41],0,a5⟩,⟨4,[123],0,a6⟩,⟨2,[114,101,116,117,114,110],0,a7⟩,⟨1,[97],0,a8⟩,⟨4,[59],0,a9⟩,⟨4,[125],0,a10⟩],q,0⟩)) (by kernel_rfl) ?_
 try dsimp only[exC,cond_false,cond_true,Bool.not_true,jn]
 refine bnd (x:= .ok ([122,122,57],⟨[⟨4,[40],0,a2⟩,⟨2,[105,110,116],0,a3⟩,⟨1,[97],0,a4⟩,⟨4,[41],0,a5⟩,⟨4,[123],0,a6⟩,⟨2,[114,101,116,117,114,110],0,a7⟩,⟨1,[97],0,a8⟩,⟨4,[59],0,a9⟩,⟨4,[125],0,a10⟩],q,0⟩)) (by kernel_rfl) ?_
 try dsimp only[exC,cond_false,cond_true,Bool.not_true,jn]
 refine bnd (x:=true) (by kernel_rfl) ?_
 try dsimp only[exC,cond_false,cond_true,Bool.not_true,jn]
 rw[show(!true)=false from rfl,cond_false];refine bnd (x:= .ok ([⟨a3,⟨[105,110,116],[],0⟩,[97],[],[],false⟩],⟨[⟨4,[123],0,a6⟩,⟨2,[114,101,116,117,114,110],0,a7⟩,⟨1,[97],0,a8⟩,⟨4,[59],0,a9⟩,⟨4,[125],0,a10⟩],q,0⟩)) (by kernel_rfl) ?_
 try dsimp only[exC,cond_false,cond_true,Bool.not_true,jn]
 refine bnd (x:= .ok ([⟨8,a7,[⟨2,a8,[],[97],0,⟨[],[],0⟩,[]⟩],[],[],[],[],[],[]⟩],⟨[],q,0⟩)) (by kernel_rfl) ?_
 try dsimp only[exC,cond_false,cond_true,Bool.not_true,jn]
 rw[E1 (by simp;omega),qV]
 rfl
theorem outer_T(h:Tz T)(q:Pos):∃a b c d e,∀p:K1,p.Funcs.length<=5000->G5 ⟨T,q,0⟩ p=some (.ok (⟨[],q,0⟩,{p with Funcs:=p.Funcs++[fz a b c d e]})):=by
 obtain⟨a0,a1,a2,a3,a4,a5,a6,a7,a8,a9,a10,rfl⟩:=h.all;exact⟨a0,a3,a7,a8,a8,fun p hp=>zz_outer a0 a1 a2 a3 a4 a5 a6 a7 a8 a9 a10 q p hp⟩
theorem Z5n{S R:Type}{b:S->Option (Lp S R)}{n:Nat}{s s':S}(h:b s=some (.go s')):X8 b (n+1) s=X8 b n s':=by
 rw[X8,h]
theorem Z7y{S R:Type}{b:S->Option (Lp S R)}{n:Nat}{s s':S}(h:b s=some (.brk s')):X8 b (n+1) s=some (.brk s'):=by
 rw[X8,h]
def Y1p:K1×Z0->Option (Lp (K1×Z0) (Except (K1×Z6×Z0) (K1×Z0))):=fun(x4,x5)=>(bif decide (0<(qQ x5.l:Int))then((G5 x5 x4).bind fun y1=>exC y1 (fun y1=>some (Lp.go (y1.2,y1.1))) (fun e1=>some (Lp.ret (qK ((⟨[],[],[]⟩:K1),e1.1,e1.2.1)))))else(some (Lp.brk (x4,x5))))
theorem Y9z(r:Z0):Q0j r=(X8 Y1p NN ((⟨[],[],[]⟩:K1),r)).bind fun o=>o.thn (fun(x4,x5)=>some (qX (x4,x5))) (fun r=>some r):=rfl
theorem try_loop(h:Tz T):∀n (p:K1)(r:Z0),Rd r->OkP p->wP p+r.l.length<=5000->r.depth=0->∀o,X8 Y1p n (p,r)=some o->match o with
 | .go _=>False
 | .ret z=>∃e,z=qK e
 | .brk s=>s.2.l=[]/\s.2.depth=0/\wP s.1<=5000/\∃k,k<=r.l.length/\∀j,X8 Y1p (k+j) (p,xr T q r)=X8 Y1p j (s.1,xr T q s.2):=by
 intro n
 induction n with
 |zero=>intro p r _ _ _ _ o e;cases e
 |succ n ih=>
  intro p r hr hp hw hd o e;unfold X8 at e
  by_cases hl:r.l=[]
  . rw[show Y1p (p,r)=some (.brk (p,r)) by unfold Y1p;dsimp only;rw[hl];rfl]at e;cases e;exact⟨hl,hd,by show wP p<=5000;omega,0,kX _,fun j=>by rw[Nat.zero_add]⟩
  . have hlen:0<r.l.length:=List.length_pos_iff.2 hl
    have hB:∀(r:Z0),0<r.l.length->Y1p (p,r)=(G5 r p).bind fun y1=>exC y1 (fun y1=>some (Lp.go (y1.2,y1.1))) (fun e1=>some (Lp.ret (qK ((⟨[],[],[]⟩:K1),e1.1,e1.2.1)))):=fun r hlen=>by
     unfold Y1p
     dsimp only
     rw[dt (show(0:Int)<(r.l.length:Int) by omega),cond_true]
    rw[hB r hlen]at e;obtain⟨y,hy,hk⟩:=Y1x hr hp (by omega);rw[hy]at e;cases y with
    |error x=>cases e;exact⟨_,rfl⟩
    |ok x=>
     obtain⟨h1,k,h2,h3,h4⟩:=hk;have hx:=h4.len;have e:X8 Y1p n (x.2,x.1)=some o:=e;have:=ih x.2 x.1 (hr.after h4) h1 (by omega) (by rw[h4.d];exact hd) o e;cases o with
     |go s=>exact this
     |ret z=>exact this
     |brk s=>
      obtain⟨g1,g2,g3,m,g4,g5⟩:=this;refine⟨g1,g2,g3,m+1,by omega,fun j=>?_⟩
      have ho:G5 (xr T q r) p=some (.ok (xr T q x.1,x.2)):=by
       rcases outer_x (q:=q) h hl p _ hy with hh|hh
       . exact hh.elim
       . exact hh
      rw[show m+1+j=(m+j)+1 by omega,Z5n (s':=(x.2,xr T q x.1)) (by rw[hB (xr T q r) (by show 0<(r.l++T).length;rw[qW];omega),ho];rfl)];exact g5 j
theorem try_more(h:Tz T)(hr:Rd r)(hd:r.depth=0){p:K1}{r':Z0}(e:Q0j r=some (.ok (p,r'))):wP p<=5000/\∃a b c d e,Q0j (xr T q r)=some (.ok ({p with Funcs:=p.Funcs++[fz a b c d e]},⟨[],q,0⟩)):=by
 rw[Y9z]at e;obtain⟨o,eo,e⟩:=Z9 e;have hlr:=hr.len;have hl:=try_loop (q:=q) h NN ⟨[],[],[]⟩ r hr ⟨no,no,no⟩ (by show 0+_<=_;omega) hd o eo;cases o with
 |go s=>exact hl.elim
 |ret z=>
  obtain⟨x,hx⟩:=hl;subst hx;cases e
 |brk s=>
  obtain⟨p2,r2⟩:=s
  injection e with e
  injection e with e
  injection e with e1 e2
  subst e1 e2;obtain⟨g1,g2,g3,k,g4,g5⟩:=hl;have g3:wP p2<=5000:=g3;obtain⟨a,b,c,d,x,hf⟩:=outer_T h q
  have hfl:p2.Funcs.length<=5000:=by
   have l3:=S7 Y1o p2.Funcs;have hwp:wP p2=sm wT p2.Structs+sm wV p2.Globals+sm wF p2.Funcs:=rfl;omega
  have hx:xr T q r2=⟨T,q,0⟩:=by unfold xr;rw[g1,g2];rfl
  refine⟨g3,a,b,c,d,x,?_⟩;rw[Y9z];have hT:0<T.length:=by obtain⟨t,l,rfl,_⟩:=h.cons;simp
  have hn:∃j,NN=k+(j+1+1):=⟨NN-k-2,by unfold NN;omega⟩;obtain⟨j,hj⟩:=hn
  have hs:X8 Y1p NN ((⟨[],[],[]⟩:K1),xr T q r)=some (.brk ({p2 with Funcs:=p2.Funcs++[fz a b c d x]},⟨[],q,0⟩)):=by
   rw[hj,g5]
   dsimp only
   rw[hx]
   have:Y1p (p2,⟨T,q,0⟩)=some (.go ({p2 with Funcs:=p2.Funcs++[fz a b c d x]},⟨[],q,0⟩)):=by
    unfold Y1p
    dsimp only
    rw[dt (show(0:Int)<(T.length:Int) by omega),cond_true,hf p2 hfl]
    rfl
   rw[Z5n this];exact Z7y rfl
  rw[hs]
  rfl
end
def Z2k{α:Type}(l:List α)(p:α->Bool):Int:=match l.findIdx? p with
 |some k=>(k:Int)
 |none=> -1
theorem X1r{α:Type}(l:List α)(p:α->Bool): -1<=Z2k l p/\Z2k l p<l.length:=by
 unfold Z2k;cases h:l.findIdx? p with
 |none=>dsimp only;omega
 |some k=>
  obtain⟨hk,_⟩:=List.findIdx?_eq_some_iff_getElem.1 h
  dsimp only
  omega
theorem Y9b{α:Type}{l:List α}{p:α->Bool}(h:0<=Z2k l p):∃x,idx l (Z2k l p)=some x/\p x=true:=by
 unfold Z2k at*;cases hf:l.findIdx? p with
 |none=>rw[hf]at h;dsimp only at h;omega
 |some k=>
  obtain⟨hk,hp,_⟩:=List.findIdx?_eq_some_iff_getElem.1 hf;exact⟨l[k],P6 hk,hp⟩
theorem Z4r{α:Type}{l:List α}{p:α->Bool}{body:Int->Option (Lp Int Int)}(hl:l.length<=1000000)
 (hs:∀k (h:k<l.length),body (k:Int)=some (bif p l[k]then .ret (k:Int)else .go (qJ .i64 ((k:Int)+1)))) (he:body (l.length:Int)=some (.brk (l.length:Int))):
 ((X8 body NN 0).bind fun o=>o.thn (fun _=>some (-1:Int)) (fun r=>some r))=some (Z2k l p):=by
 refine Y6a l p (fun k=>(k:Int)) (by omega) hs he ?_;unfold Z2k;cases l.findIdx? p<;>rfl
theorem if1{l:List U8}(hl:l.length<=1000000)(n:List UInt8):Q5k l n=some (Z2k l fun k=>k.Type_.Kind==5&&decide (k.Type_.Name=n)):=by
 unfold Q5k;refine Z4r hl (fun k hk=>?_) (by rw[c0 (dge _)]);rw[c1 (dlt hk),P6 hk,qV];unfold Q6j;rw[qV];cases(l[k].Type_.Kind==5&&decide (l[k].Type_.Name=n))<;>rfl
theorem if2{l:List U8}(hl:l.length<=1000000)(n:U8):Q3k l n=some (Z2k l fun k=>((k.Type_.Kind==n.Type_.Kind)&&(k.Type_.Elem==n.Type_.Elem))&&(k.Type_.Len==n.Type_.Len)&&(n.Type_.Kind !=5)):=by
 unfold Q3k;refine Z4r hl (fun k hk=>?_) (by rw[c0 (dge _)]);rw[c1 (dlt hk),P6 hk,qV];unfold Q8f;rw[qV];cases(((l[k].Type_.Kind==n.Type_.Kind)&&(l[k].Type_.Elem==n.Type_.Elem))&&(l[k].Type_.Len==n.Type_.Len)&&(n.Type_.Kind !=5))<;>rfl
theorem if3{l:List K5}(hl:l.length<=1000000):Q3j l=some (Z2k l fun k=>decide (k.Name=[])):=by
 unfold Q3j;refine Z4r hl (fun k hk=>?_) (by rw[c0 (dge _)]);rw[c1 (dlt hk),P6 hk,qV];unfold Q8j;rw[qV];cases(decide (l[k].Name=[]))<;>rfl
theorem Z8i(t:Z5)(n:Int):M7 t n=some (decide (0<=n/\n<t.list.length)):=by
 unfold M7
 congr 1
 by_cases h1:0<=n<;>by_cases h2:n<t.list.length<;>simp[h1,h2]
theorem O2{α:Type}{l:List α}{n:Int}(h:0<=n/\n<l.length):∃x,idx l n=some x/\x∈l:=by
 obtain⟨k,rfl⟩:=jR h.1;have hk:k<l.length:=by omega
 exact⟨l[k],P6 hk,jT hk⟩
theorem X1p{α:Type}{l s:List α}{n:Int}{x:α}(h:idx l n=some x):idx (l++s) n=some x:=by
 obtain⟨h0,h1,h2⟩:=S8 h;unfold idx;rw[if_pos h0,kR (by omega),h2]
structure KOk(l:List U8)(k:U8):Prop where
 sz:0<=k.size/\k.size<=32768
 al:0<=k.align/\k.align<=32768
 sa:k.size≠0->1<=k.align
 op:k.open_=true->k.size=0
 arr:k.Type_.Kind=4->1<=k.Type_.Len/\∃e,idx l k.Type_.Elem=some e/\1<=e.size/\k.size=k.Type_.Len*e.size
 fl:k.Type_.Fields.length<=5000
structure Tab(t:Z5):Prop where
 l3:3<=t.list.length
 l4:t.list.length<=400
 k:∀k∈t.list,KOk t.list k
def Gr(t t':Z5):Prop:=∃s,t'.list=t.list++s
theorem Gr.refl(t:Z5):Gr t t:=⟨[],by simp⟩
theorem Gr.trans{a b c:Z5}(h:Gr a b)(g:Gr b c):Gr a c:=by
 obtain⟨s,hs⟩:=h;obtain⟨r,hr⟩:=g;exact⟨s++r,by rw[hr,hs,qS]⟩
theorem Gr.len{t t':Z5}(h:Gr t t'):t.list.length<=t'.list.length:=by
 obtain⟨s,hs⟩:=h;rw[hs,qW];omega
theorem Gr.idx{t t':Z5}(h:Gr t t'){n:Int}{x:U8}(hx:idx t.list n=some x):idx t'.list n=some x:=by
 obtain⟨s,hs⟩:=h;rw[hs];exact X1p hx
theorem KOk.app{l s:List U8}{k:U8}(h:KOk l k):KOk (l++s) k:=⟨h.sz,h.al,h.sa,h.op,fun e=>by
 obtain⟨h1,x,hx,h2⟩:=h.arr e
 exact⟨h1,x,X1p hx,h2⟩,h.fl⟩
theorem Y1y{t:Z5}(h:Tab t)(n:List UInt8):Q1p t n=some (Z2k t.list fun k=>k.Type_.Kind==5&&decide (k.Type_.Name=n)):=by
 unfold Q1p;exact bnd (if1 (by have:=h.l4;omega) n) rfl
def Pt(t:Z5)(P:Int->Z5->Prop)(y:Option (Int×Int×Z5)):Prop:=∃n e t',y=some (n,e,t')/\Tab t'/\Gr t t'/\(e=0->0<=n/\n<t'.list.length/\P n t')
theorem Y7a{t:Z5}(h:Tab t){k:U8}(hk:KOk t.list k):Pt t (fun n t'=>∃x,idx t'.list n=some x/\x.Type_.Kind=k.Type_.Kind/\(k.Type_.Kind≠5->x.Type_.Elem=k.Type_.Elem/\x.Type_.Len=k.Type_.Len)) (Q3m t k):=by
 have l4:=h.l4;unfold Q3m;rw[if2 (by omega),qV];have hf:=X1r t.list (fun x=>((x.Type_.Kind==k.Type_.Kind)&&(x.Type_.Elem==k.Type_.Elem))&&(x.Type_.Len==k.Type_.Len)&&(k.Type_.Kind !=5));have hh:=Y9b (l:=t.list) (p:=fun x=>((x.Type_.Kind==k.Type_.Kind)&&(x.Type_.Elem==k.Type_.Elem))&&(x.Type_.Len==k.Type_.Len)&&(k.Type_.Kind !=5))
 generalize Z2k t.list _=n at hf hh⊢
 by_cases h0:0<=n
 . rw[c1 (dt h0)];obtain⟨x,hx,hp⟩:=hh h0
   simp only[qM,beq_iff_eq]at hp
   exact⟨n,0,t,rfl,h,Gr.refl t,fun _=>⟨h0,hf.2,x,hx,hp.1.1.1,fun _=>⟨hp.1.1.2,hp.1.2⟩⟩⟩
 . rw[c0 (df h0)]
   by_cases h1:(400:Int)<=t.list.length
   . rw[c1 (dt h1)];exact⟨0,8,t,rfl,h,Gr.refl t,fun e=>by cases e⟩
   . rw[c0 (df h1),E1 (by simp;omega),qV];refine⟨_,_,_,rfl,⟨by simp;have:=h.l3;omega,by simp;omega,fun x hx=>?_⟩,⟨[k],rfl⟩,fun _=>?_⟩
     . rcases jQ.1 hx with hx|hx
       . exact(h.k x hx).app
       . rw[kQ.1 hx];exact hk.app
     . have e:qJ .i64 (((t.list++[k]).length:Int)-1)=(t.list.length:Int):=by rw[qW,w64 (by simp;omega)];simp
       refine⟨by rw[e];omega,by rw[e];simp;omega,k,?_,rfl,fun _=>⟨rfl,rfl⟩⟩
       dsimp only
       rw[e,P6 (by simp)]
       simp
theorem X1k{t:Z5}(h:Tab t)(n:Int):Pt t (fun _ _=>True) (Q0u t n):=by
 unfold Q0u;rw[Z8i,qV]
 by_cases h0:0<=n/\n<t.list.length
 . rw[dt h0];obtain⟨m,e,t',hy,h1,h2,h3⟩:=Y7a h (k:=⟨⟨3,n,0,[],[]⟩,4,4,false⟩) ⟨(by decide:(0:Int)<=4/\(4:Int)<=32768),(by decide:(0:Int)<=4/\(4:Int)<=32768),fun _=>(by decide:(1:Int)<=4),fun e=>(by cases e),fun e=>(by cases e),by simp⟩;exact⟨m,e,t',bnd hy rfl,h1,h2,fun he=>⟨(h3 he).1,(h3 he).2.1,trivial⟩⟩
 . rw[df h0];exact⟨0,4,t,rfl,h,Gr.refl t,fun e=>by cases e⟩
theorem X3f{t:Z5}(h:Tab t)(n m:Int):Pt t (fun _ _=>True) (Q5p t n m):=by
 unfold Q5p;rw[Z8i,qV]
 by_cases h0:0<=n/\n<t.list.length
 . rw[dt h0];obtain⟨x,hx,hxm⟩:=O2 h0;have kx:=h.k x hxm;have hz:=kx.sz
   simp only[Bool.not_true,cond_false,hx,qV]
   by_cases h1:x.size=0
   . rw[c1 (by rw[h1];rfl)];exact⟨0,5,t,rfl,h,Gr.refl t,fun e=>by cases e⟩
   . rw[c0 (by simpa using h1)]
     by_cases h2:m<1
     . rw[c1 (dt h2)];exact⟨0,1,t,rfl,h,Gr.refl t,fun e=>by cases e⟩
     . rw[c0 (df h2),show nz x.size=some () by unfold nz;rw[if_neg h1],qV];have hdiv:Int.tdiv 32768 x.size=32768/x.size:=Int.tdiv_eq_ediv_of_nonneg (by decide);have hd0:0<=(32768:Int)/x.size:=Int.ediv_nonneg (by decide) (by omega);have hd1:(32768:Int)/x.size<=32768:=Int.ediv_le_self _ (by decide);rw[hdiv,w64 (by omega)]
       by_cases h3:(32768:Int)/x.size<m
       . rw[c1 (dt h3)];exact⟨0,2,t,rfl,h,Gr.refl t,fun e=>by cases e⟩
       . rw[c0 (df h3)]
         have hmul:m*x.size<=32768:=by
          have h4:m*x.size<=(32768/x.size)*x.size:=Int.mul_le_mul_of_nonneg_right (by omega) (by omega);have h5:=Int.ediv_mul_le (32768:Int) h1;omega
         have hmul0:1<=m*x.size:=by
          have:=Int.mul_le_mul (show(1:Int)<=m by omega) (show(1:Int)<=x.size by omega) (by decide) (by omega);omega
         rw[w64 (by omega)];obtain⟨m',e,t',hy,g1,g2,g3⟩:=Y7a h (k:=⟨⟨4,n,m,[],[]⟩,m*x.size,x.align,false⟩) ⟨by dsimp only;omega,kx.al,fun _=>kx.sa h1,fun e=>(by cases e),fun _=>⟨by dsimp only;omega,x,hx,by omega,rfl⟩,by simp⟩;exact⟨m',e,t',bnd hy rfl,g1,g2,fun he=>⟨(g3 he).1,(g3 he).2.1,trivial⟩⟩
 . rw[df h0];exact⟨0,4,t,rfl,h,Gr.refl t,fun e=>by cases e⟩
theorem open_any{t:Z5}(h:Tab t)(n:List UInt8):∃m e t',Q6s t n=some (m,e,t')/\Tab t':=by
 unfold Q6s
 by_cases h0:n=[]
 . rw[c1 (dt h0)];exact⟨_,_,_,rfl,h⟩
 . rw[c0 (df h0),Y1y h,qV]
   by_cases h1:0<=Z2k t.list fun k=>k.Type_.Kind==5&&decide (k.Type_.Name=n)
   . rw[c1 (dt h1)];exact⟨_,_,_,rfl,h⟩
   . rw[c0 (df h1)];obtain⟨m',e,t',hy,g1,g2,g3⟩:=Y7a h (k:=⟨⟨5,0,0,n,[]⟩,0,0,true⟩) ⟨(by decide:(0:Int)<=0/\(0:Int)<=32768),(by decide:(0:Int)<=0/\(0:Int)<=32768),fun e=>absurd rfl e,fun _=>rfl,fun e=>(by cases e),by simp⟩;exact⟨m',e,t',bnd hy rfl,g1⟩
theorem find_any{t:Z5}(h:Tab t)(n:List UInt8):∃m e,Q6t t n=some (m,e):=by
 unfold Q6t;rw[Y1y h,qV]
 by_cases h1:(Z2k t.list fun k=>k.Type_.Kind==5&&decide (k.Type_.Name=n))<0
 . rw[c1 (dt h1)];exact⟨_,_,rfl⟩
 . rw[c0 (df h1)];exact⟨_,_,rfl⟩
def szT(t:Z5)(n:Int):Int:=match idx t.list n with
 |some x=>x.size
 |none=>0
theorem Z4p{α:Type}{l:List α}{n:Int}(h:¬(0<=n/\n<l.length)):idx l n=none:=by
 cases e:idx l n with
 |none=>rfl
 |some x=>exact absurd ⟨(S8 e).1,(S8 e).2.1⟩ h
theorem Q2v(t:Z5)(n:Int):U9 t n=some (szT t n):=by
 unfold U9 szT;rw[Z8i,qV]
 by_cases h0:0<=n/\n<t.list.length
 . obtain⟨x,hx,_⟩:=O2 h0;rw[dt h0,hx]
   rfl
 . rw[df h0,Z4p h0]
   rfl
def alT(t:Z5)(n:Int):Int:=match idx t.list n with
 |some x=>x.align
 |none=>0
theorem Y9t(t:Z5)(n:Int):W9 t n=some (alT t n):=by
 unfold W9 alT;rw[Z8i,qV]
 by_cases h0:0<=n/\n<t.list.length
 . obtain⟨x,hx,_⟩:=O2 h0;rw[dt h0,hx]
   rfl
 . rw[df h0,Z4p h0]
   rfl
theorem X0b{t:Z5}(h:Tab t)(n:Int):0<=szT t n/\szT t n<=32768:=by
 unfold szT
 by_cases h0:0<=n/\n<t.list.length
 . obtain⟨x,hx,hm⟩:=O2 h0;rw[hx];exact(h.k x hm).sz
 . rw[Z4p h0];decide
theorem alT_ok{t:Z5}(h:Tab t)(n:Int):0<=alT t n/\alT t n<=32768/\(szT t n≠0->1<=alT t n):=by
 unfold alT szT
 by_cases h0:0<=n/\n<t.list.length
 . obtain⟨x,hx,hm⟩:=O2 h0;rw[hx];exact⟨(h.k x hm).al.1,(h.k x hm).al.2,(h.k x hm).sa⟩
 . rw[Z4p h0];decide
theorem Gr.sz{t t':Z5}(h:Gr t t'){n:Int}(hn:0<=n/\n<t.list.length):szT t' n=szT t n:=by
 obtain⟨x,hx,_⟩:=O2 hn;unfold szT;rw[h.idx hx,hx]
theorem Y9h{l:List K5}(h:l.length<=5000):Q8d l=some l:=by
 unfold Q8d;rw[E1 (by simp;omega)]
 rfl
def tyT(t:Z5)(n:Int):Q5t×Int:=match idx t.list n with
 |some x=>(x.Type_,0)
 |none=>(⟨0,0,0,[],[]⟩,4)
theorem Z2n{t:Z5}(h:Tab t)(n:Int):M5 t n=some (tyT t n):=by
 unfold M5 tyT;rw[Z8i,qV]
 by_cases h0:0<=n/\n<t.list.length
 . obtain⟨x,hx,hm⟩:=O2 h0;rw[dt h0,c0 (b:=!true) rfl,hx];refine bnd (x:=x) rfl ?_;exact bnd (Y9h (h.k x hm).fl) rfl
 . rw[df h0,Z4p h0]
   rfl
theorem Z1f(t:Z5)(n:Int):∃b,V1 t n=some b:=by
 unfold V1;rw[Z8i,qV]
 by_cases h0:0<=n/\n<t.list.length
 . obtain⟨x,hx,hm⟩:=O2 h0;rw[dt h0,hx];exact⟨_,rfl⟩
 . rw[df h0];exact⟨_,rfl⟩
theorem X2t{t:Z5}(h:Tab t)(n:Int)(nm:List UInt8):∃f e,Q3f t n nm=some (f,e):=by
 unfold Q3f;rw[Z8i,qV]
 by_cases h0:0<=n/\n<t.list.length
 . obtain⟨x,hx,hm⟩:=O2 h0;rw[dt h0]
   simp only[Bool.not_true,cond_false,hx,qV]
   cases x.Type_.Kind !=5 with
   |true=>exact⟨_,_,rfl⟩
   |false=>
    have hfl:=(h.k x hm).fl;refine Exists.elim (Q1n (body:=fun(x1:Int)=>(bif decide (x1<(qQ x.Type_.Fields:Int))then((idx x.Type_.Fields x1).bind fun u3=>bif decide (u3.Name=nm)then(some (Lp.ret (u3,(0:Int))))else(some (Lp.go (qJ .i64 (x1+1)))))else(some (Lp.brk x1)):Option (Lp (Int) (K5×Int)))) (n:=NN) (s:=0) (fun s=>0<=s/\s<=x.Type_.Fields.length) (fun s=>x.Type_.Fields.length-s.toNat) (fun o=>(∃s,o= .brk s)\/∃r,o= .ret r) ⟨by omega,by omega⟩ (Q7a (by omega)) ?_) ?_
    . rintro s ⟨s0,s1⟩
      by_cases hs:s<x.Type_.Fields.length
      . rw[c1 (dt hs)];obtain⟨f,hf,_⟩:=O2 ⟨s0,hs⟩;rw[hf,qV];cases decide (f.Name=nm)with
        |true=>exact⟨_,rfl,.inr ⟨_,rfl⟩⟩
        |false=>exact⟨_,rfl,⟨by rw[w64 (by omega)];omega,by rw[w64 (by omega)];omega⟩,by rw[w64 (by omega)];omega⟩
      . rw[c0 (df hs)];exact⟨_,rfl,.inl ⟨_,rfl⟩⟩
    . rintro o ⟨ho,hp⟩;rw[c0 rfl,ho,qV]
      rcases hp with⟨s,rfl⟩|⟨⟨f,e⟩,rfl⟩
      . exact⟨_,_,rfl⟩
      . exact⟨f,e,rfl⟩
 . rw[df h0];exact⟨_,_,rfl⟩
def Er(r:Z1):Prop:=Pn r.pos/\r.e≠0
def Ep(r:Z1×Q0):Prop:=Er r.1
def Og{E A:Type}(q:E->Prop)(y:Option (Except E A))(p:A->Prop):Prop:=∃z,y=some z/\match z with
 | .error e=>q e
 | .ok x=>p x
theorem Og.ok{E A:Type}{q:E->Prop}{x:A}{p:A->Prop}(h:p x):Og q (some (qX x)) p:=⟨_,rfl,h⟩
theorem Og.err{E A:Type}{q:E->Prop}{e:E}{p:A->Prop}(h:q e):Og q (some (qK (α:=A) e)) p:=⟨_,rfl,h⟩
theorem Og.mono{E A:Type}{q:E->Prop}{y:Option (Except E A)}{p r:A->Prop}(h:Og q y p)(hp:∀x,p x->r x):Og q y r:=by
 obtain⟨z,e,hz⟩:=h;refine⟨z,e,?_⟩;cases z with
 |error e=>exact hz
 |ok x=>exact hp x hz
theorem Og.bind{E E' A B:Type}{q:E->Prop}{q':E'->Prop}{y:Option (Except E A)}{p:A->Prop}{f:A->Option (Except E' B)}{k:E->Option (Except E' B)}{r:B->Prop}(h:Og q y p)(hf:∀x,p x->Og q' (f x) r)(hk:∀e,q e->Og q' (k e) r):Og q' (y.bind fun z=>exC z f k) r:=by
 obtain⟨z,ez,hz⟩:=h;rw[ez,qV];cases z with
 |error e=>exact hk e hz
 |ok x=>exact hf x hz
theorem Og.step{E A B:Type}{q:E->Prop}{m:Option B}{x:B}{f:B->Option (Except E A)}{p:A->Prop}(h:m=some x)(k:Og q (f x) p):Og q (m.bind f) p:=by subst h;exact k
theorem Rn.bindG{E A S R:Type}{q:E->Prop}{y:Option (Except E A)}{p:A->Prop}{f:A->Option (Lp S R)}{k:E->Option (Lp S R)}{P:Lp S R->Prop}(h:Og q y p)(hf:∀x,p x->Rn (f x) P)(hk:∀e,q e->Rn (k e) P):Rn (y.bind fun z=>exC z f k) P:=by
 obtain⟨z,ez,hz⟩:=h;rw[ez,qV];cases z with
 |error x=>exact hk x hz
 |ok x=>exact hf x hz
def NxG{S R E A:Type}(I:S->Prop)(μ:S->Nat)(s:S)(f:Lp S R->Option (Except E A))(q:E->Prop)(p:A->Prop):Lp S R->Prop
 | .go s'=>I s'/\μ s'<μ s
 | .brk s'=>Og q (f (.brk s')) p
 | .ret r=>Og q (f (.ret r)) p
theorem Og.loop{S R E A:Type}{body:S->Option (Lp S R)}{f:Lp S R->Option (Except E A)}{q:E->Prop}{p:A->Prop}{s:S}(I:S->Prop)(μ:S->Nat)(hI:I s)(hn:μ s<2000000)(hs:∀s,I s->Rn (body s) (NxG I μ s f q p)):Og q ((X8 body NN s).bind f) p:=by
 obtain⟨o,ho,hp⟩:=Q1n I μ (fun o=>Og q (f o) p) hI (Q7a (by omega)) (fun s h=>by
  obtain⟨z,e,hz⟩:=hs s h;exact⟨z,e,by cases z<;>exact hz⟩)
 exact Og.step ho hp
theorem Y7m{p:Pos}{k:Int}(hp:Pn p)(hk:k≠0):Og Er (X0 p k) (fun _=>False):=Og.err ⟨hp,hk⟩
theorem must_g{p:Pos}{k:Int}(hp:Pn p):Og Er (R4 p k) (fun _=>k=0):=by
 unfold R4
 by_cases h:k=0
 . rw[c0 (by rw[h];rfl)];exact Og.ok h
 . rw[c1 (by simpa using h)];exact Og.bind (Y7m hp h) (fun _ h=>h.elim) (fun e he=>Og.err he)
/-! Structs. -/
theorem if4{l:List K5}(hl:l.length<=1000000)(t:Z5):Q3i l t=some (Z2k l fun f=>!decide (0<=f.Type_/\f.Type_<t.list.length)):=by
 unfold Q3i;refine Z4r hl (fun k hk=>?_) (by rw[c0 (dge _)]);rw[c1 (dlt hk),P6 hk,qV];unfold Q8i;rw[Z8i,qV,qV];cases decide (0<=l[k].Type_/\l[k].Type_<t.list.length)<;>rfl
theorem if5{l:List K5}(hl:l.length<=1000000)(t:Z5):Q3h l t=some (Z2k l fun f=>szT t f.Type_==0):=by
 unfold Q3h;refine Z4r hl (fun k hk=>?_) (by rw[c0 (dge _)]);rw[c1 (dlt hk),P6 hk,qV];unfold Q8h;rw[Q2v,qV,qV];cases(szT t l[k].Type_==0)<;>rfl
theorem if6{l:List K5}(hl:l.length<=1000000)(n:K5):Q3g l n=some (Z2k l fun f=>decide (f.Name=n.Name)):=by
 unfold Q3g;refine Z4r hl (fun k hk=>?_) (by rw[c0 (dge _)]);rw[c1 (dlt hk),P6 hk,qV];unfold Q8g;rw[qV];cases(decide (l[k].Name=n.Name))<;>rfl
theorem X2u{α:Type}{l:List α}{p:α->Bool}(h:¬0<=Z2k l p):∀x∈l,p x=false:=by
 unfold Z2k at h;cases e:l.findIdx? p with
 |none=>
  rw[List.findIdx?_eq_none_iff]at e;exact e
 |some k=>rw[e]at h;exact absurd (Int.natCast_nonneg k) h
theorem may_any(t:Z5){l:List K5}(hl:l.length<=5000):∃e,Q7t t l=some e/\(e=0->l≠[]/\∀f∈l,szT t f.Type_≠0):=by
 unfold Q7t
 by_cases h0:l=[]
 . rw[c1 (by rw[h0];rfl)];exact⟨1,rfl,fun e=>by cases e⟩
 . have hn:((l.length:Int)==0)=false:=beq_eq_false_iff_ne.2 (by
    intro e;exact h0 (List.length_eq_zero_iff.1 (by omega)))
   rw[c0 hn];unfold Q5i;rw[if3 (by omega),qV,qV]
   by_cases h1:0<=Z2k l fun k=>decide (k.Name=[])
   . rw[c1 (dt h1)];exact⟨1,rfl,fun e=>by cases e⟩
   rw[c0 (df h1)];unfold Q3s;rw[if4 (by omega),qV,qV]
   by_cases h2:0<=Z2k l fun f=>!decide (0<=f.Type_/\f.Type_<t.list.length)
   . rw[c1 (dt h2)];exact⟨4,rfl,fun e=>by cases e⟩
   rw[c0 (df h2)];unfold Q3r;rw[if5 (by omega),qV,qV]
   by_cases h3:0<=Z2k l fun f=>szT t f.Type_==0
   . rw[c1 (dt h3)];exact⟨5,rfl,fun e=>by cases e⟩
   rw[c0 (df h3)];have hz:l≠[]/\∀f∈l,szT t f.Type_≠0:=⟨h0,fun f hf=>by simpa using X2u h3 f hf⟩;refine Exists.elim (Q1n (body:=fun(x1:Int)=>(bif decide (x1<(qQ l:Int))then((idx l x1).bind fun u1=>(sub l 0 x1).bind fun u2=>(Q1i u2 u1).bind fun y4=>bif y4 then(some (Lp.ret (6:Int)))else(some (Lp.go (qJ .i64 (x1+1)))))else(some (Lp.brk x1)):Option (Lp (Int) (Int)))) (n:=NN) (s:=0) (fun s=>0<=s/\s<=l.length) (fun s=>l.length-s.toNat) (fun o=>(∃s,o= .brk s)\/o= .ret 6) ⟨by omega,by omega⟩ (Q7a (by omega)) ?_) ?_
   . rintro s ⟨s0,s1⟩
     by_cases hs:s<l.length
     . rw[c1 (dt hs)];obtain⟨f,hf,_⟩:=O2 ⟨s0,hs⟩;obtain⟨k,rfl⟩:=jR s0;rw[hf,qV,show sub l 0 (k:Int)=some (l.take k) by unfold sub;rw[if_pos (by omega)];simp,qV];unfold Q1i;rw[if6 (by rw[qE];omega),qV,qV];cases decide (0<=Z2k (l.take k) fun g=>decide (g.Name=f.Name))with
       |true=>exact⟨_,rfl,.inr rfl⟩
       |false=>exact⟨_,rfl,⟨by rw[w64 (by omega)];omega,by rw[w64 (by omega)];omega⟩,by rw[w64 (by omega)];omega⟩
     . rw[c0 (df hs)];exact⟨_,rfl,.inl ⟨_,rfl⟩⟩
   . rintro o ⟨ho,hp⟩;rw[ho,qV]
     rcases hp with⟨s,rfl⟩|rfl
     . exact⟨0,rfl,fun _=>hz⟩
     . exact⟨6,rfl,fun e=>by cases e⟩
theorem up_any{x a:Int}(hx:0<=x/\x<=100000)(ha:1<=a/\a<=32768):∃y,Z5p x a=some y/\x<=y/\y<x+a:=by
 unfold Z5p;rw[show nz a=some () by unfold nz;rw[if_neg (by omega)],qV,w64 (x:=x+a) (by omega),w64 (x:=x+a-1) (by omega),Int.tdiv_eq_ediv_of_nonneg (by omega)];have h1:=Int.ediv_mul_le (x+a-1) (show a≠0 by omega);have h2:=Int.lt_ediv_add_one_mul_self (x+a-1) (show 0<a by omega);have h3:((x+a-1)/a+1)*a=(x+a-1)/a*a+a:=by rw[Int.add_mul];omega
 have h4:0<=(x+a-1)/a:=Int.ediv_nonneg (by omega) (by omega);have h5:(x+a-1)/a<=x+a-1:=Int.ediv_le_self _ (by omega);rw[w64 (x:=(x+a-1)/a) (by omega),w64 (by omega)];exact⟨_,rfl,by omega,by omega⟩
theorem Y2z{α:Type}{l:List α}{n m:Int}{x:α}(hn:0<=n):idx (qP l (Int.toNat n) x) m=if m=n/\n<l.length then some x else idx l m:=by
 unfold idx
 by_cases h0:0<=m
 . rw[if_pos h0,if_pos h0,List.getElem?_set]
   by_cases e:n.toNat=m.toNat
   . have e2:m=n:=by omega
     subst e2;rw[if_pos e]
     by_cases hl:m<l.length
     . rw[if_pos (by omega),if_pos ⟨rfl,hl⟩]
     . rw[if_neg (by omega),if_neg (fun h=>hl h.2)];exact(List.getElem?_eq_none (by omega)).symm
   . rw[if_neg e,if_neg (fun h=>e (by rw[h.1]))]
 . rw[if_neg h0,if_neg h0,if_neg (fun h=>h0 (by omega))]
theorem Y2w{α:Type}{l:List α}{n:Nat}{x y:α}(h:y∈qP l n x):y∈l\/y=x:=List.mem_or_eq_of_mem_set h
theorem Tab.close{t:Z5}(h:Tab t){n:Int}{u:U8}(hn:0<=n/\n<t.list.length)(hu:idx t.list n=some u)(hk:u.Type_.Kind=5)(ho:u.size=0){v:U8}(hv:KOk t.list v)(hv5:v.Type_.Kind=5):Tab ⟨qP t.list n.toNat v⟩:=by
 have keep:∀x,KOk t.list x->KOk (qP t.list n.toNat v) x:=fun x hx=>⟨hx.sz,hx.al,hx.sa,hx.op,fun e=>by
  obtain⟨h1,y,hy,h2,h3⟩:=hx.arr e;refine⟨h1,y,?_,h2,h3⟩;rw[Y2z hn.1];rw[if_neg]
  . exact hy
  . rintro⟨e1,_⟩;rw[e1,hu]at hy;cases hy;omega,hx.fl⟩
 refine⟨by simpa using h.l3,by simpa using h.l4,fun x hx=>?_⟩
 rcases Y2w hx with hx|rfl
 . exact keep x (h.k x hx)
 . exact keep _ hv
theorem X0c{t:Z5}(h:Tab t)(nm:List UInt8){l:List K5}(hl:l.length<=5000):∃n e t',Q4n t nm l=some (n,e,t')/\Tab t':=by
 have l4:=h.l4;unfold Q4n;rw[Y1y h,qV];have hf:=X1r t.list (fun k=>k.Type_.Kind==5&&decide (k.Type_.Name=nm));have hh:=Y9b (l:=t.list) (p:=fun k=>k.Type_.Kind==5&&decide (k.Type_.Name=nm))
 generalize Z2k t.list _=n at hf hh⊢
 by_cases h0:n<0
 . rw[c1 (dt h0)];exact⟨_,_,_,rfl,h⟩
 rw[c0 (df h0)];obtain⟨u,hu,hp⟩:=hh (by omega)
 simp only[qM,beq_iff_eq]at hp
 have hum:u∈t.list:=by
  obtain⟨x,hx,hm⟩:=O2 (l:=t.list) (n:=n) ⟨by omega,hf.2⟩;rw[hu]at hx;cases hx;exact hm
 rw[hu,qV];cases hop:u.open_ with
 |false=>exact⟨_,_,_,rfl,h⟩
 |true=>
 rw[c0 (b:=!true) rfl];have husz:=(h.k u hum).op hop;obtain⟨e,he,hz⟩:=may_any t hl;rw[he,qV]
 by_cases h1:e=0
 case neg=>rw[c1 (by simpa using h1)];exact⟨_,_,_,rfl,h⟩
 rw[c0 (by rw[h1];rfl),Y9h hl,qV];have hz:=(hz h1).2
 refine Exists.elim (Q1n (body:=fun(x1,x2,x3,x4)=>(bif decide (x2<(qQ l:Int))then((idx x1 x2).bind fun u2=>(idx x1 x2).bind fun u3=>(Q2r u3 x4 t x3).bind fun y4=>bif !y4.1 then(some (Lp.ret ((0:Int),(2:Int),t)))else(some (Lp.go (qP x1 (Int.toNat x2) y4.2.1,qJ .i64 (x2+1),y4.2.2.2,y4.2.2.1))))else(some (Lp.brk (x1,x2,x3,x4))):Option (Lp ((List K5)×Int×Int×Int) (Int×Int×Z5)))) (n:=NN) (s:=(l,(0:Int),(1:Int),(0:Int)))
  (fun s=>s.1.length=l.length/\(∀f∈s.1,szT t f.Type_≠0)/\(0<=s.2.1/\s.2.1<=l.length)/\(1<=s.2.2.1/\s.2.2.1<=32768)/\(0<=s.2.2.2/\s.2.2.2<=32768)) (fun s=>l.length-s.2.1.toNat)
  (fun o=>(∃s,o= .brk s/\s.1.length=l.length/\(1<=s.2.2.1/\s.2.2.1<=32768)/\(0<=s.2.2.2/\s.2.2.2<=32768))\/o= .ret (0,2,t)) ⟨rfl,hz,by dsimp only;omega,(by decide:(1:Int)<=1/\(1:Int)<=32768),(by decide:(0:Int)<=0/\(0:Int)<=32768)⟩ (Q7a (by dsimp only;omega)) ?_) ?_
 . rintro⟨x1,x2,x3,x4⟩ ⟨i1,i2,i3,i4,i5⟩
   dsimp only at i1 i2 i3 i4 i5⊢
   by_cases hs:x2<l.length
   . rw[c1 (dt hs)];obtain⟨f,hf2,hfm⟩:=O2 (l:=x1) (n:=x2) ⟨i3.1,by rw[i1];exact hs⟩;rw[hf2,qV,qV];have hal:=alT_ok h f.Type_;have hsz:=X0b h f.Type_;have hne:=i2 f hfm;obtain⟨y,hy,hy1,hy2⟩:=up_any (x:=x4) (a:=alT t f.Type_) (by omega) ⟨hal.2.2 hne,hal.2.1⟩;unfold Q2r;rw[Y9t,qV,hy,qV,Q2v,qV,qV,qV]
     dsimp only
     rw[w64 (x:=y+szT t f.Type_) (by omega)]
     by_cases hb:y+szT t f.Type_<=32768
     . rw[dt hb];refine⟨_,rfl,⟨by simpa using i1,?_,by dsimp only;rw[w64 (by omega)];omega,by dsimp only;omega,by dsimp only;omega⟩,by dsimp only;rw[w64 (by omega)];omega⟩;intro g hg
       rcases Y2w hg with hg|rfl
       . exact i2 g hg
       . exact hne
     . rw[df hb];exact⟨_,rfl,.inr rfl⟩
   . rw[c0 (df hs)];exact⟨_,rfl,.inl ⟨_,rfl,i1,i4,i5⟩⟩
 . rintro o ⟨ho,hp2⟩;rw[ho,qV]
   rcases hp2 with⟨⟨x1,x2,x3,x4⟩,rfl,j1,j2,j3⟩|rfl
   case inr=>exact⟨_,_,_,rfl,h⟩
   dsimp only[Lp.thn]at j1 j2 j3⊢
   obtain⟨y,hy,hy1,hy2⟩:=up_any (x:=x4) (a:=x3) (by omega) j2;rw[hy,qV]
   by_cases hb:(32768:Int)<y
   . rw[c1 (dt hb)];exact⟨_,_,_,rfl,h⟩
   rw[c0 (df hb),qV,qV,qV,Y2z (by omega),if_pos ⟨rfl,hf.2⟩,qV,Y2z (by omega),if_pos ⟨rfl,by simpa using hf.2⟩,qV,Y2z (by omega),if_pos ⟨rfl,by simpa using hf.2⟩,qV];refine⟨_,_,_,rfl,?_⟩
   simp only[List.set_set]
   refine h.close ⟨by omega,hf.2⟩ hu hp.1 husz ⟨by dsimp only;omega,by dsimp only;omega,fun _=>j2.1,fun e=>(by cases e),fun e=>?_,by dsimp only;omega⟩ hp.1
   dsimp only at e
   rw[hp.1]at e;cases e
structure Tg(c c':Q0):Prop where
 eq:c'={c with t:=c'.t}
 tab:Tab c'.t
 gr:Gr c.t c'.t
theorem Tg.refl{c:Q0}(h:Tab c.t):Tg c c:=⟨rfl,h,Gr.refl _⟩
theorem Tg.mk'{c:Q0}{t:Z5}(h:Tab t)(g:Gr c.t t):Tg c {c with t:=t}:=⟨rfl,h,g⟩
theorem Tg.trans{a b c:Q0}(h:Tg a b)(g:Tg b c):Tg a c:=⟨by rw[g.eq,h.eq],g.tab,h.gr.trans g.gr⟩
theorem X0l{p:Pos}{k:Int}{c:Q0}{B:Type}{f:Unit->Option (Except (Z1×Q0) B)}{r:B->Prop}(hp:Pn p)(hf:k=0->Og Ep (f ()) r):Og Ep ((R4 p k).bind fun y=>exC y f (fun e=>some (qK (e,c)))) r:=
 Og.bind (must_g hp) (fun _ h=>hf h) (fun e he=>Og.err he)
theorem Z0o{p:Pos}{k:Int}{c:Q0}{B:Type}{f:Unit->Option (Except (Z1×Q0) B)}{r:B->Prop}(hp:Pn p)(hk:k≠0):Og Ep ((X0 p k).bind fun y=>exC y f (fun e=>some (qK (e,c)))) r:=
 Og.bind (Y7m hp hk) (fun _ h=>h.elim) (fun e he=>Og.err he)
theorem fail_l{p:Pos}{k:Int}{c:Q0}{S A B:Type}{f:Unit->Option (Lp S (Except (Z1×Q0) A))}{I:S->Prop}{μ:S->Nat}{s:S}{F:Lp S (Except (Z1×Q0) A)->Option (Except (Z1×Q0) B)}{r:B->Prop}(hp:Pn p)(hk:k≠0)(hF:∀e,Ep e->Og Ep (F (.ret (.error e))) r):Rn ((X0 p k).bind fun y=>exC y f (fun e=>some (Lp.ret (qK (e,c))))) (NxG I μ s F Ep r):=
 Rn.bindG (Y7m hp hk) (fun _ h=>h.elim) (fun e he=>Rn.ok (hF _ he))
theorem Y3x{p:Pos}{k:Int}{c:Q0}{S A B:Type}{f:Unit->Option (Lp S (Except (Z1×Q0) A))}{I:S->Prop}{μ:S->Nat}{s:S}{F:Lp S (Except (Z1×Q0) A)->Option (Except (Z1×Q0) B)}{r:B->Prop}(hp:Pn p)(hf:k=0->Rn (f ()) (NxG I μ s F Ep r))(hF:∀e,Ep e->Og Ep (F (.ret (.error e))) r):Rn ((R4 p k).bind fun y=>exC y f (fun e=>some (Lp.ret (qK (e,c))))) (NxG I μ s F Ep r):=
 Rn.bindG (must_g hp) (fun _ h=>hf h) (fun e he=>Rn.ok (hF _ he))
theorem Z4i{c:Q0}(h:Tab c.t){p:Pos}(hp:Pn p){ty:F9}(ht:OkT ty):Og Ep (K7 c p ty) (fun x=>Tg c x.2):=by
 unfold K7
 dsimp only[jn]
 have key:∀x1:Int,Og Ep ((X8 (fun(x3,x4,x5)=>(bif decide (x4<ty.Stars)then((Q0u x5 x3).bind fun y3=>(R4 p y3.2.1).bind fun y4=>exC y4 (fun y4=>some (Lp.go (y3.1,qJ .i64 (x4+1),y3.2.2))) (fun e2=>some (Lp.ret (qK (e2,{c with t:=y3.2.2})))))else(some (Lp.brk (x3,x4,x5))):Option (Lp (Int×Int×Z5) (Except (Z1×Q0) (Int×Q0))))) NN (x1,(0:Int),c.t)).bind fun o=>o.thn (fun(x3,x4,x5)=>some (qX (x3,{c with t:=x5}))) (fun r=>some r)) (fun x=>Tg c x.2):=by
  intro x1;have hst:=ht.2.2;refine Og.loop (fun s=>Tab s.2.2/\Gr c.t s.2.2/\0<=s.2.1) (fun s=>ty.Stars.toNat-s.2.1.toNat) ⟨h,Gr.refl _,Int.le_refl 0⟩ (by dsimp only;omega) ?_;rintro⟨x3,x4,x5⟩ ⟨i1,i2,i3⟩
  dsimp only at i1 i2 i3⊢
  by_cases hs:x4<ty.Stars
  . rw[c1 (dt hs)];obtain⟨n,e,t',hy,g1,g2,g3⟩:=X1k i1 x3;refine Rn.step hy ?_;refine Y3x hp (fun he=>Rn.ok ⟨⟨g1,i2.trans g2,by dsimp only;rw[w64 (by omega)];omega⟩,by dsimp only;rw[w64 (by omega)];omega⟩) (fun e he=>Og.err he)
  . rw[c0 (df hs)];exact Rn.ok (Og.ok (Tg.mk' i1 i2))
 by_cases h1:ty.Word=[105,110,116]
 . rw[c1 (dt h1)];exact key 1
 rw[c0 (df h1)]
 by_cases h2:ty.Word=[99,104,97,114]
 . rw[c1 (dt h2)];exact key 2
 rw[c0 (df h2)]
 by_cases h3:ty.Word=[115,116,114,117,99,116]
 . rw[c1 (dt h3)];obtain⟨m,e,hy⟩:=find_any h ty.Name;refine Og.step hy ?_;exact X0l hp fun _=>key m
 rw[c0 (df h3)];exact key 0
theorem Y9f{c:Q0}(h:Tab c.t){v:G9}(hv:OkV v)(hd:v.Dims.length<=5000):Og Ep (M0 c v) (fun x=>Tg c x.2):=by
 unfold M0;refine Og.bind (Z4i h hv.pos hv.ty) (fun y1 a1=>?_) (fun e he=>Og.err he);refine Og.loop (fun s=>Tab s.2.2/\Gr c.t s.2.2/\ -1<=s.2.1/\s.2.1<v.Dims.length) (fun s=>(s.2.1+1).toNat) ⟨a1.tab,a1.gr,by dsimp only;rw[w64 (by omega)];omega,by dsimp only;rw[w64 (by omega)];omega⟩ (by dsimp only;rw[w64 (by omega)];omega) ?_;rintro⟨x2,x3,x4⟩ ⟨i1,i2,i3,i4⟩
 dsimp only at i1 i2 i3 i4⊢
 by_cases hs:0<=x3
 . rw[c1 (dt hs)];obtain⟨d,hd2,_⟩:=O2 ⟨hs,i4⟩;refine Rn.step hd2 ?_;obtain⟨n,e,t',hy,g1,g2,g3⟩:=X3f i1 x2 (qJ .i64 d);refine Rn.step hy ?_;refine Y3x hv.pos (fun he=>Rn.ok ⟨⟨g1,i2.trans g2,by dsimp only;rw[w64 (by omega)];omega,by dsimp only;rw[w64 (by omega)];omega⟩,by dsimp only;rw[w64 (by omega)];omega⟩) (fun e he=>Og.err he)
 . rw[c0 (df hs)];refine Rn.ok (Og.ok ⟨?_,i1,i2⟩)
   dsimp only
   rw[a1.eq]
theorem Y6t{c:Q0}(h:Tab c.t){v:G9}(hv:OkV v)(hd:v.Dims.length<=5000):Og Ep (I3 c v) (fun x=>Tg c x.2/\szT x.2.t x.1≠0):=by
 unfold I3;refine Og.bind (Y9f h hv hd) (fun y1 a1=>?_) (fun e he=>Og.err he);refine Og.step (Q2v _ _) ?_
 by_cases h0:szT y1.2.t y1.1=0
 . rw[c1 (by rw[h0];rfl)];exact Z0o hv.pos (by decide)
 . rw[c0 (by simpa using h0)];exact Og.ok ⟨a1,h0⟩
theorem Y4t{c:Q0}(h:Tab c.t)(n:Int):∃k,W2 c n=some k/\(k≠0->k=szT c.t n)/\0<=k/\k<=32768:=by
 unfold W2;obtain⟨b,hb⟩:=Z1f c.t n;rw[hb,qV];cases b with
 |false=>exact⟨0,rfl,fun e=>absurd rfl e,by decide⟩
 |true=>
  have:=X0b h n;refine⟨szT c.t n,?_,fun _=>rfl,this.1,this.2⟩;rw[c0 (b:=!true) rfl,Q2v]
  rfl
theorem Y3l{c:Q0}(h:Tab c.t)(nm:List UInt8)(n:Int):∃s,W0 c nm n=some s:=by
 unfold W0;obtain⟨k,hk,_⟩:=Y4t h n;rw[Q2v,qV,Y9t,qV,hk];exact⟨_,rfl⟩
def paT(t:Z5)(n:Int):Int:=if(tyT t n).1.Kind=4 then(tyT t n).1.Elem else n
theorem Y2v{c:Q0}(h:Tab c.t)(n:Int):W1 c n=some (paT c.t n):=by
 unfold W1 paT;rw[Z2n h,qV]
 by_cases h4:(tyT c.t n).1.Kind=4
 . rw[c1 (by rw[h4];rfl),if_pos h4]
 . rw[c0 (by simpa using h4),if_neg h4]
theorem Z9z{p:Pos}{k:Int}{B:Type}{f:Unit->Option (Except Z1 B)}{r:B->Prop}(hp:Pn p)(hk:k≠0):Og Er ((X0 p k).bind fun y=>exC y f (fun e=>some (qK e))) r:=
 Og.bind (Y7m hp hk) (fun _ h=>h.elim) (fun e he=>Og.err he)
theorem X1o{c:Q0}(h:Tab c.t){v:G9}(hv:OkV v)(n:Int):Og Er (Q1a c v n) (fun l=>(l=[]\/l=v.Init)/\(l≠[]->szT c.t (paT c.t n)≠0/\szT c.t (paT c.t n)*l.length<=szT c.t n)):=by
 unfold Q1a
 by_cases h0:v.Init=[]
 . rw[c1 (by rw[h0];rfl)];exact Og.ok ⟨.inl rfl,fun e=>absurd rfl e⟩
 . have hn:((v.Init.length:Int)==0)=false:=beq_eq_false_iff_ne.2 (by
    intro e;exact h0 (List.length_eq_zero_iff.1 (by omega)))
   rw[c0 hn,Z2n h,qV]
   by_cases h1:((tyT c.t n).1.Kind==4)=v.Brace
   case neg=>
    rw[c1 (by simpa using h1)];exact Z9z hv.pos (by decide)
   rw[c0 (by simpa using h1),Y2v h,qV];obtain⟨k,hk,hk1,hk2⟩:=Y4t h (paT c.t n);rw[hk,qV]
   by_cases h2:k=0
   . rw[c1 (by rw[h2];rfl)];exact Z9z hv.pos (by decide)
   rw[c0 (by simpa using h2)];have hkz:=hk1 h2
   by_cases h4:(tyT c.t n).1.Kind=4
   . by_cases h3:(tyT c.t n).1.Len<v.Init.length
     . rw[c1 (by rw[h4,dt h3];rfl)];exact Z9z hv.pos (by decide)
     rw[c0 (by rw[df h3];simp)];refine Og.ok ⟨.inr rfl,fun _=>⟨by rw[<-hkz];exact h2,?_⟩⟩;unfold paT at hkz⊢;rw[if_pos h4]at hkz⊢;unfold tyT at h4 h3 hkz⊢;cases hx:idx c.t.list n with
     |none=>rw[hx]at h4;exact absurd h4 (by decide)
     |some x=>
      rw[hx]at h4 h3 hkz
      have hm:x∈c.t.list:=by
       obtain⟨a,b,d⟩:=S8 hx;exact List.mem_of_getElem? d
      obtain⟨l1,e,he,he1,he2⟩:=(h.k x hm).arr h4;have e1:szT c.t n=x.size:=by unfold szT;rw[hx]
      have e2:szT c.t x.Type_.Elem=e.size:=by unfold szT;rw[he]
      dsimp only at h3⊢
      rw[e1,e2,he2,Int.mul_comm];exact Int.mul_le_mul_of_nonneg_right (by omega) (by omega)
   . have hb:v.Brace=false:=by rw[<-h1];simpa using h4
     have hl:=hv.br hb;rw[c0 (by simp[h4])];refine Og.ok ⟨.inr rfl,fun _=>⟨by rw[<-hkz];exact h2,?_⟩⟩;have hp:paT c.t n=n:=by unfold paT;rw[if_neg h4]
     have h1':v.Init.length=1:=by
      have:=List.length_pos_iff.2 h0;omega
     rw[hp,h1']
     simp
def MpO(m:Option (List (List UInt8×Int)))(n:Nat):Prop:=∃l,m=some l/\∀k v,Q4x l k=some v->0<=v/\v<n
structure Fn(f:G0):Prop where
 ty:f.types.length=f.slots.length
 le:f.slots.length<=200
 sc:∀m∈f.scopes,MpO m f.slots.length
 sl:f.scopes.length<=100000
def FnO:O3 G0->Prop
 | .nil=>True
 | .dead=>False
 | .some f=>Fn f
structure Ck(c:Q0):Prop where
 tab:Tab c.t
 gl:MpO c.globals c.gtypes.length
 co:MpO c.codes c.signs.length
 fn:FnO c.fun_
 gn:Q9t c.globals=c.gtypes.length
 cn:Q9t c.codes=c.signs.length
 ug:c.u.Globals.length=c.gtypes.length
 uc:c.u.Codes.length=c.signs.length
 lg:c.gtypes.length<=200
 lc:c.signs.length<=200
theorem Ck.tg{c c':Q0}(h:Ck c)(g:Tg c c'):Ck c':=by
 have e:=g.eq;have t:=g.tab
 generalize c'.t=t' at e t
 subst e;exact⟨t,h.gl,h.co,h.fn,h.gn,h.cn,h.ug,h.uc,h.lg,h.lc⟩
theorem Tg.fun_eq{c c':Q0}(g:Tg c c'):c'.fun_=c.fun_:=by rw[g.eq]
theorem Tg.back{c c':Q0}(g:Tg c c'):{c' with fun_:=c.fun_}=c':=by
 have:=g.fun_eq;rw[<-this]
inductive Dp:Nat->Y1->Prop
 |mk {n:Nat} {t:Y1} (h:∀k∈t.Kids,Dp n k) (nu:U32 t.Num) (kl:t.Kids.length<=100000):Dp (n+1) t
theorem Dp.mono{n:Nat}{t:Y1}(h:Dp n t):∀{m:Nat},n<=m->Dp m t:=by
 induction h with
 |@mk n t hk nu kl ih=>
  intro m hm;obtain⟨k,rfl⟩:∃k,m=k+1:=⟨m-1,by omega⟩;exact .mk (fun x hx=>ih x hx (by omega)) nu kl
theorem Dp.k0{n:Nat}{t:Y1}(h:t.Kids=[])(hn:1<=n)(nu:U32 t.Num:=by first|exact Z5d|exact Z9s _):Dp n t:=Dp.mono (n:=1) (.mk (n:=0) (fun k hk=>by rw[h]at hk;cases hk) nu (by rw[h];decide)) hn
theorem Dp.k1{n m:Nat}{t x:Y1}(h:t.Kids=[x])(hx:Dp n x)(hm:n+1<=m)(nu:U32 t.Num:=by first|exact Z5d|exact Z9s _):Dp m t:=Dp.mono (.mk (n:=n) (fun k hk=>by rw[h,kQ]at hk;rw[hk];exact hx) nu (by rw[h];simp)) hm
theorem Dp.k2{n m:Nat}{t x y:Y1}(h:t.Kids=[x,y])(hx:Dp n x)(hy:Dp n y)(hm:n+1<=m)(nu:U32 t.Num:=by first|exact Z5d|exact Z9s _):Dp m t:=Dp.mono (.mk (n:=n) (fun k hk=>by
 rw[h]at hk
 rcases qZ.1 hk with rfl|hk
 . exact hx
 . rw[kQ.1 hk];exact hy) nu (by rw[h];simp)) hm
theorem Z4s{c:Q0}(h:Tab c.t)(n:Int):∃e b,H4 c n=some (e,b):=by
 unfold H4;rw[Z2n h,qV,Q2v,qV];cases(tyT c.t n).1.Kind==3<;>exact⟨_,_,rfl⟩
theorem Q0d{c:Q0}(h:Tab c.t)(n:Int):∃b,Y8 c n=some b:=by
 unfold Y8;rw[Z2n h];exact⟨_,rfl⟩
theorem Z5e(c:Q0)(n:Int):∃k,J7 c n=some k:=by
 unfold J7;cases n==2<;>exact⟨_,rfl⟩
theorem Z7v(x:Y2):∃b,Q6l x=some b:=⟨_,rfl⟩
theorem Z8v{c:Q0}(h:Tab c.t)(a b:Y1)(e k:Int):∃s p,Q0c c a b e k=some ⟨14,k,0,0,false,s,false,p,[a,b]⟩:=by
 unfold Q0c;rw[Q2v];exact⟨_,_,rfl⟩
theorem Y7c{c:Q0}(h:Tab c.t){p:Pos}(hp:Pn p)(n:Int):Og Ep (I4 c p n) (fun x=>Tg c x.2):=by
 unfold I4;obtain⟨m,e,t',hy,g1,g2,g3⟩:=X1k h n;refine Og.step hy ?_;exact X0l hp fun _=>Og.ok (Tg.mk' g1 g2)
theorem X0a{c:Q0}(h:Tab c.t){p:Pos}(hp:Pn p){v:Z8}{n:Nat}(hv:Dp n v.term):Og Ep (P9 c p v) (fun x=>Tg c x.2/\Dp (n+1) x.1.term):=by
 unfold P9
 dsimp only[jn]
 cases hl:v.lies with
 |false=>exact Og.ok ⟨Tg.refl h,hv.mono (by omega)⟩
 |true=>
 rw[c0 (b:=!true) rfl,Z2n h,qV,Q2v,qV]
 by_cases h4:(tyT c.t v.n).1.Kind=4
 . rw[c1 (by rw[h4];rfl)]
   by_cases h2:v.term.Kind=2
   . rw[c0 (by rw[h2];rfl)];exact Og.bind (Y7c h hp _) (fun y a=>Og.ok ⟨a,hv.mono (by omega)⟩) (fun e he=>Og.err he)
   . rw[c1 (by simpa using h2)];exact Og.bind (Y7c h hp _) (fun y a=>Og.ok ⟨a,Dp.k1 rfl hv (qD _)⟩) (fun e he=>Og.err he)
 . rw[c0 (by simpa using h4)];obtain⟨b,hb⟩:=Z1f c.t v.n;refine Og.step hb ?_;cases b with
   |false=>rw[c1 (b:=!false) rfl];exact Z0o hp (by decide)
   |true=>
    rw[c0 (b:=!true) rfl]
    by_cases h2:v.n=2
    . rw[c1 (by rw[h2];rfl)];obtain⟨q,hq⟩:=Q0d h 1;exact Og.step hq (Og.ok ⟨Tg.refl h,Dp.k1 rfl hv (qD _)⟩)
    . rw[c0 (by simpa using h2)];obtain⟨q,hq⟩:=Q0d h v.n;exact Og.step hq (Og.ok ⟨Tg.refl h,Dp.k1 rfl hv (qD _)⟩)
theorem Z4h{c:Q0}(h:Tab c.t){x:Y2}(hx:Pn x.Pos){v:Z8}{n:Nat}(hn:1<=n)(hv:Dp n v.term)(k:Int):Og Er (D3 c x v k) (fun t=>Dp n t):=by
 unfold D3;obtain⟨b,hb⟩:=Q0d h k;obtain⟨z,hz⟩:=Z7v x
 simp only[hb,hz,qV]
 have rest:Og Er (bif (b&&(v.n==k))then(some (qX v.term))else(bif ((!b)&&(v.n==1))then(some (qX v.term))else((X0 x.Pos 5).bind fun y6=>exC y6 (fun y6=>none) (fun e1=>some (qK e1))))) (fun t=>Dp n t):=by
  cases(b&&(v.n==k))with
  |true=>exact Og.ok hv
  |false=>
   rw[c0 (b:=false) rfl];cases((!b)&&(v.n==1))with
   |true=>exact Og.ok hv
   |false=>rw[c0 (b:=false) rfl];exact Z9z hx (by decide)
 cases b with
 |false=>exact rest
 |true=>
  rw[c1 (b:=true) rfl];cases z with
  |false=>exact rest
  |true=>rw[c1 (b:=true) rfl];exact Og.step (x:=(⟨1,0,0,0,false,0,false,true,[]⟩:Y1)) rfl (Og.ok (Dp.k0 rfl hn))
theorem Y8y{c:Q0}(h:Tab c.t){x:Y2}(hx:Pn x.Pos){v:Z8}{n:Nat}(hn:1<=n)(hv:Dp n v.term)(k:Int):Og Er (P2 c x v k) (fun t=>Dp (n+1) t):=by
 unfold P2;refine Og.bind (Z4h h hx hn hv k) (fun y a=>?_) (fun e he=>Og.err he);cases k==2 with
 |true=>exact Og.ok (Dp.k1 rfl a (qD _))
 |false=>exact Og.ok (a.mono (by omega))
theorem X1n{c:Q0}(h:Tab c.t){p:Pos}(hp:Pn p){v:Z8}{t:Y1}{n:Nat}(hv:Dp n v.term)(ht:Dp n t)(k:Int):Og Er (Q0z c p v t k) (fun y=>Dp (n+1) y.term):=by
 unfold Q0z;obtain⟨e,b,hb⟩:=Z4s h v.n;refine Og.step hb ?_;cases b with
 |false=>rw[c1 (b:=!false) rfl];exact Z9z hp (by decide)
 |true=>
  rw[c0 (b:=!true) rfl];obtain⟨s,q,hi⟩:=Z8v h v.term t e k;exact Og.step hi (Og.ok (Dp.k2 rfl hv ht (qD _)))
theorem cond_any{α:Type}{b:Bool}{x y:Option α}(h:∃k,x=some k)(g:∃k,y=some k):∃k,(bif b then x else y)=some k:=by cases b<;>assumption
theorem Y4k(o:List UInt8):∃k,Q9p o=some k:=by
 unfold Q9p
 repeat'(first|exact⟨_,rfl⟩|refine cond_any ?_ ?_)
theorem Q7v{x:Y2}{k:Nat}(h:k<x.Kids.length):∃y,idx x.Kids (k:Int)=some y/\y∈x.Kids:=⟨x.Kids[k],P6 h,jT h⟩
theorem OkE.kids{x:Y2}(h:OkE x):∀k∈x.Kids,OkE k:=match h with| .mk k _ _ _ _ _ _=>k
theorem OkE.ar{x:Y2}(h:OkE x):Z2g x.Kind<=x.Kids.length:=match h with| .mk _ _ _ _ a _ _=>a
theorem OkE.ex{x:Y2}(h:OkE x):Ex x.Kind x.Pos x.Op x.Name x.Kids.length:=match h with| .mk _ _ _ _ _ e _=>e
theorem OkE.ty{x:Y2}(h:OkE x):OkT x.Type_:=match h with| .mk _ _ _ t _ _ _=>t
theorem OkE.nu{x:Y2}(h:OkE x):U32 x.Num:=match h with| .mk _ _ _ _ _ _ n=>n
theorem OkE.pn{x:Y2}(h:OkE x):Pn x.Pos:=h.ex.1
theorem equal_g{c:Q0}(h:Tab c.t){x:Y2}(hx:OkE x)(h2:2<=x.Kids.length){u v:Z8}{n:Nat}(hn:1<=n)(hu:Dp n u.term)(hv:Dp n v.term):Og Er (Q2t c x u v) (fun y=>Dp (n+1) y.term):=by
 unfold Q2t
 dsimp only[jn]
 obtain⟨a,ha,ham⟩:=Q7v (k:=0) (show 0<x.Kids.length by omega);obtain⟨b,hb,hbm⟩:=Q7v (k:=1) (show 1<x.Kids.length by omega);refine Og.step ha ?_;refine Og.step hb ?_;have pa:=(hx.kids a ham).pn;have pb:=(hx.kids b hbm).pn;obtain⟨f,hf⟩:=Y4k x.Op;refine Og.step hf ?_;obtain⟨p,hp⟩:=Q0d h u.n;obtain⟨q,hq⟩:=Q0d h v.n;obtain⟨za,hza⟩:=Z7v a;obtain⟨zb,hzb⟩:=Z7v b;have hno:Q1t=some (⟨1,0,0,0,false,0,false,true,[]⟩:Y1):=rfl
 simp only[hp,hq,hza,hzb,hno,qV]
 have d0:Dp n (⟨1,0,0,0,false,0,false,true,[]⟩:Y1):=Dp.k0 rfl hn
 cases p<;>cases q<;>cases za<;>cases zb<;>cases(u.n==v.n)<;>cases(u.n !=1)<;>simp only[cond_true,cond_false,Bool.not_true,Bool.not_false]<;>first
  |exact Z9z pa (by decide)
  |exact Z9z pb (by decide)
  |exact Og.ok (Dp.k2 rfl hu hv (qD _))
  |exact Og.ok (Dp.k2 rfl hu d0 (qD _))
  |exact Og.ok (Dp.k2 rfl d0 hv (qD _))
  |skip
theorem find_g{f:G0}(h:Fn f)(nm:List UInt8):∃v b,Q0y f nm=some (v,b)/\(b=true->0<=v/\v<f.types.length):=by
 have hsl:=h.sl;unfold Q0y;refine Exists.elim (Q1n (body:=fun(x1:Int)=>(bif decide (0<=x1)then((idx f.scopes x1).bind fun u1=>bif (J5 u1 nm).isSome then(some (Lp.ret ((J5 u1 nm).getD 0,true)))else(some (Lp.go (qJ .i64 (x1-1)))))else(some (Lp.brk x1)):Option (Lp (Int) (Int×Bool)))) (n:=NN) (s:=qJ .i64 ((qQ f.scopes:Int)-1)) (fun s=> -1<=s/\s<f.scopes.length) (fun s=>(s+1).toNat) (fun o=>(∃s,o= .brk s)\/∃v,o= .ret (v,true)/\0<=v/\v<f.types.length) ⟨by rw[w64 (by omega)];omega,by rw[w64 (by omega)];omega⟩ (Q7a (by rw[w64 (by omega)];omega)) ?_) ?_
 . rintro s ⟨s0,s1⟩
   by_cases hs:0<=s
   . rw[c1 (dt hs)];obtain⟨m,hm,hmm⟩:=O2 ⟨hs,s1⟩;rw[hm,qV];obtain⟨l,hl,hv⟩:=h.sc m hmm;have hg:J5 m nm=Q4x l nm:=by unfold J5;rw[hl];rfl
     rw[hg];cases he:Q4x l nm with
     |none=>exact⟨_,rfl,⟨by rw[w64 (by omega)];omega,by rw[w64 (by omega)];omega⟩,by rw[w64 (by omega)];omega⟩
     |some v=>
      have:=hv nm v he;exact⟨_,rfl,.inr ⟨v,rfl,this.1,by rw[h.ty];exact this.2⟩⟩
   . rw[c0 (df hs)];exact⟨_,rfl,.inl ⟨_,rfl⟩⟩
 . rintro o ⟨ho,hp⟩;rw[ho,qV]
   rcases hp with⟨s,rfl⟩|⟨v,rfl,hv⟩
   . exact⟨_,_,rfl,fun e=>by cases e⟩
   . exact⟨_,_,rfl,fun _=>hv⟩
theorem name_g{c:Q0}(h:Ck c){x:Y2}(hx:Pn x.Pos):Og Ep (O4 c x) (fun y=>y.2=c/\Dp 1 y.1.term):=by
 unfold O4
 dsimp only[jn]
 have rest:Og Ep (bif !((J5 c.globals x.Name).isSome)then((X0 x.Pos 4).bind fun y2=>exC y2 (fun y2=>none) (fun e1=>some (qK (e1,c))))else((idx c.gtypes ((J5 c.globals x.Name).getD 0)).bind fun u5=>some (qX ((⟨u5,(⟨2,0,0,(J5 c.globals x.Name).getD 0,true,0,false,true,[]⟩:Y1),true⟩:Z8),c)))) (fun y=>y.2=c/\Dp 1 y.1.term):=by
  obtain⟨l,hl,hv⟩:=h.gl;have hg:J5 c.globals x.Name=Q4x l x.Name:=by unfold J5;rw[hl];rfl
  rw[hg];cases he:Q4x l x.Name with
  |none=>rw[c1 (b:=!(kJ none)) rfl];exact Z0o hx (by decide)
  |some v=>
   obtain⟨t,ht,_⟩:=O2 (hv _ _ he);rw[c0 (b:=!(kJ (some v))) rfl];exact Og.step ht (Og.ok ⟨rfl,Dp.k0 rfl (qD _)⟩)
 have hf:=h.fn;cases hfn:c.fun_ with
 |nil=>exact rest
 |dead=>rw[hfn]at hf;exact hf.elim
 |some f=>
  rw[hfn]at hf;refine Og.step (x:=false) rfl ?_;rw[c1 (b:=!false) rfl];refine Og.step (x:=f) rfl ?_;obtain⟨v,b,hy,hv⟩:=find_g hf x.Name;refine Og.step hy ?_;cases b with
  |false=>exact rest
  |true=>
   obtain⟨t,ht,_⟩:=O2 (hv rfl);exact Og.step ht (Og.ok ⟨rfl,Dp.k0 rfl (qD _)⟩)
def QV(c:Q0)(n:Nat)(y:Z8×Q0):Prop:=Tg c y.2/\Dp n y.1.term
def QT(c:Q0)(n:Nat)(y:Y1×Q0):Prop:=Tg c y.2/\Dp n y.1
theorem X2d{x k:Y2}(h:k∈x.Kids):wE k<=sm wE x.Kids:=by
 obtain⟨s,t,e⟩:=List.append_of_mem h;rw[e,Q2a,Q7b];omega
theorem Z2e{x k:Y2}(h:k∈x.Kids):wE k+1<=wE x:=by
 have:=X2d h;have h2:=Y8e x;omega
structure OkX(x:Y2):Prop where
 e:OkE x
 w:wE x<=10000
theorem OkX.kids{x:Y2}(h:OkX x):∀k∈x.Kids,OkX k:=fun k hk=>⟨h.e.kids k hk,by have:=Z2e hk;have:=h.w;omega⟩
theorem OkX.ar{x:Y2}(h:OkX x):Z2g x.Kind<=x.Kids.length:=h.e.ar
theorem OkX.ex{x:Y2}(h:OkX x):Ex x.Kind x.Pos x.Op x.Name x.Kids.length:=h.e.ex
theorem OkX.ty{x:Y2}(h:OkX x):OkT x.Type_:=h.e.ty
theorem OkX.pn{x:Y2}(h:OkX x):Pn x.Pos:=h.e.pn
structure S3(n:Nat):Prop where
 asked:∀c x,Ck c->OkX x->20*wE x+5<=n->Og Ep ((F2 n).V5 c x) (QT c (6*wE x))
 number:∀c x,Ck c->OkX x->20*wE x+5<=n->Og Ep ((F2 n).V2 c x) (QT c (6*wE x))
 unary:∀c x,Ck c->OkX x->1<=x.Kids.length->20*wE x+2<=n->Og Ep ((F2 n).E8 c x) (QV c (6*wE x-2))
 both:∀c k x,Ck c->OkX x->2<=x.Kids.length->20*wE x+1<=n->Og Ep ((F2 n).G4 c k x) (QV c (6*wE x-2))
 binary:∀c x,Ck c->OkX x->2<=x.Kids.length->20*wE x+2<=n->Og Ep ((F2 n).F5 c x) (QV c (6*wE x-2))
 lying:∀c x,Ck c->OkX x->20*wE x+4<=n->Og Ep ((F2 n).F1 c x) (QV c (6*wE x-2))
 assign:∀c x,Ck c->OkX x->2<=x.Kids.length->x.Op≠[]->20*wE x+2<=n->Og Ep ((F2 n).F6 c x) (QV c (6*wE x-2))
 cond:∀c x,Ck c->OkX x->3<=x.Kids.length->20*wE x+2<=n->Og Ep ((F2 n).B6 c x) (QV c (6*wE x-2))
 call:∀c x,Ck c->OkX x->x.Kind=7->20*wE x+2<=n->Og Ep ((F2 n).B7 c x) (QV c (6*wE x-2))
 member:∀c x,Ck c->OkX x->1<=x.Kids.length->20*wE x+2<=n->Og Ep ((F2 n).F4 c x) (QV c (6*wE x-2))
 step:∀c x,Ck c->OkX x->1<=x.Kids.length->20*wE x+2<=n->Og Ep ((F2 n).B4 c x) (QV c (6*wE x-2))
 expr:∀c x,Ck c->OkX x->20*wE x+3<=n->Og Ep ((F2 n).U0 c x) (QV c (6*wE x-2))
 value:∀c x,Ck c->OkX x->20*wE x+4<=n->Og Ep ((F2 n).Z3 c x) (QV c (6*wE x))
theorem asked_s3{n:Nat}(h:S3 n):∀c x,Ck c->OkX x->20*wE x+5<=n+1->Og Ep ((F2 (n+1)).V5 c x) (QT c (6*wE x)):=by
 intro c x hc hx hn;show Og Ep (H9 (F2 n) c x) _;unfold H9;refine Og.bind (h.value c x hc hx (by omega)) (fun y a=>?_) (fun e he=>Og.err he);cases y.1.n !=1 with
 |false=>exact Og.ok a
 |true=>
  obtain⟨b,hb⟩:=Q0d a.1.tab y.1.n;refine Og.step hb ?_;cases b with
  |true=>exact Og.ok a
  |false=>rw[c1 (b:=!false) rfl];exact Z0o hx.pn (by decide)
theorem X2h{n:Nat}(h:S3 n):∀c x,Ck c->OkX x->20*wE x+5<=n+1->Og Ep ((F2 (n+1)).V2 c x) (QT c (6*wE x)):=by
 intro c x hc hx hn;show Og Ep (A0 (F2 n) c x) _;unfold A0;refine Og.bind (h.value c x hc hx (by omega)) (fun y a=>?_) (fun e he=>Og.err he);cases y.1.n !=1 with
 |false=>exact Og.ok a
 |true=>rw[c1 (b:=true) rfl];exact Z0o hx.pn (by decide)
theorem both_s3{n:Nat}(h:S3 n):∀c k x,Ck c->OkX x->2<=x.Kids.length->20*wE x+1<=n+1->Og Ep ((F2 (n+1)).G4 c k x) (QV c (6*wE x-2)):=by
 intro c k x hc hx h2 hn;show Og Ep (L9 (F2 n) c k x) _;unfold L9;obtain⟨a,ha,ham⟩:=Q7v (k:=0) (show 0<x.Kids.length by omega);obtain⟨b,hb,hbm⟩:=Q7v (k:=1) (show 1<x.Kids.length by omega);have wa:=Z2e ham;have wb:=Z2e hbm;refine Og.step ha ?_;refine Og.bind (h.asked c a hc (hx.kids a ham) (by omega)) (fun y1 a1=>?_) (fun e he=>Og.err he);refine Og.step hb ?_;refine Og.bind (h.asked y1.2 b (hc.tg a1.1) (hx.kids b hbm) (by omega)) (fun y2 a2=>?_) (fun e he=>Og.err he);exact Og.ok ⟨a1.1.trans a2.1,Dp.k2 (n:=6*wE x-6) rfl (a1.2.mono (by omega)) (a2.2.mono (by omega)) (by omega)⟩
theorem lying_s3{n:Nat}(h:S3 n):∀c x,Ck c->OkX x->20*wE x+4<=n+1->Og Ep ((F2 (n+1)).F1 c x) (QV c (6*wE x-2)):=by
 intro c x hc hx hn;show Og Ep (H7 (F2 n) c x) _;unfold H7;refine Og.bind (h.expr c x hc hx (by omega)) (fun y a=>?_) (fun e he=>Og.err he);cases y.1.lies with
 |false=>rw[c1 (b:=!false) rfl];exact Z0o hx.pn (by decide)
 |true=>
  rw[c0 (b:=!true) rfl];obtain⟨b,hb⟩:=Z1f y.2.t y.1.n;refine Og.step hb ?_;cases b with
  |true=>exact Og.ok a
  |false=>rw[c1 (b:=!false) rfl];exact Z0o hx.pn (by decide)
theorem value_s3{n:Nat}(h:S3 n):∀c x,Ck c->OkX x->20*wE x+4<=n+1->Og Ep ((F2 (n+1)).Z3 c x) (QV c (6*wE x)):=by
 intro c x hc hx hn;show Og Ep (P7 (F2 n) c x) _;unfold P7;have:=Q2u x;refine Og.bind (h.expr c x hc hx (by omega)) (fun y a=>?_) (fun e he=>Og.err he);refine Og.bind (X0a a.1.tab hx.pn a.2) (fun z b=>?_) (fun e he=>Og.err he);refine Og.ok ⟨?_,b.2.mono (by omega)⟩
 dsimp only
 rw[b.1.back];exact a.1.trans b.1
theorem unary_s3{n:Nat}(h:S3 n):∀c x,Ck c->OkX x->1<=x.Kids.length->20*wE x+2<=n+1->Og Ep ((F2 (n+1)).E8 c x) (QV c (6*wE x-2)):=by
 intro c x hc hx h1 hn;show Og Ep (H6 (F2 n) c x) _;unfold H6
 dsimp only[jn]
 obtain⟨a,ha,ham⟩:=Q7v (k:=0) (show 0<x.Kids.length by omega);have wa:=Z2e ham;have oa:=hx.kids a ham;refine Og.step ha ?_
 have num:∀k:Int,Og Ep (((F2 n).V2 c a).bind fun y9=>exE y9 (fun y9=>some (qX ((⟨1,(⟨5,k,0,0,false,0,false,false,([y9.1]:List Y1)⟩:Y1),false⟩:Z8),y9.2)))) (QV c (6*wE x-2)):=fun k=>
  Og.bind (h.number c a hc oa (by omega)) (fun y a1=>Og.ok ⟨a1.1,Dp.k1 (n:=6*wE x-6) rfl (a1.2.mono (by omega)) (by omega)⟩) (fun e he=>Og.err he)
 by_cases o1:x.Op=[38]
 . rw[c1 (dt o1)];refine Og.bind (h.expr c a hc oa (by omega)) (fun y1 a1=>?_) (fun e he=>Og.err he);refine Og.step (Z2n a1.1.tab _) ?_;cases((!y1.1.lies)||((tyT y1.2.t y1.1.n).1.Kind==4))with
   |true=>rw[c1 (b:=true) rfl];exact Z0o oa.pn (by decide)
   |false=>
    rw[c0 (b:=false) rfl];refine Og.bind (Y7c a1.1.tab hx.pn _) (fun y4 a4=>?_) (fun e he=>Og.err he);refine Og.ok ⟨?_,a1.2.mono (by omega)⟩
    dsimp only
    rw[a4.back];exact a1.1.trans a4
 rw[c0 (df o1)]
 by_cases o2:x.Op=[42]
 . rw[c1 (dt o2)];refine Og.bind (h.value c a hc oa (by omega)) (fun y1 a1=>?_) (fun e he=>Og.err he);obtain⟨e,b,hb⟩:=Z4s a1.1.tab y1.1.n;refine Og.step hb ?_;cases b with
   |false=>rw[c1 (b:=!false) rfl];exact Z0o oa.pn (by decide)
   |true=>exact Og.ok ⟨a1.1,a1.2.mono (by omega)⟩
 rw[c0 (df o2)]
 by_cases o3:x.Op=[33]
 . rw[c1 (dt o3)];exact Og.bind (h.asked c a hc oa (by omega)) (fun y a1=>Og.ok ⟨a1.1,Dp.k1 (n:=6*wE x-6) rfl (a1.2.mono (by omega)) (by omega)⟩) (fun e he=>Og.err he)
 rw[c0 (df o3)]
 by_cases o4:x.Op=[45]
 . rw[c1 (dt o4)];exact num 17
 . rw[c0 (df o4)];exact num 18
theorem Q0p{p:Pos}{k:Int}{c:Q0}{B:Type}{r:B->Prop}(hp:Pn p)(hk:k≠0):Og Ep ((X0 p k).bind fun y=>exC y (fun _=>(none:Option (Except (Z1×Q0) B))) (fun e=>some (qK (e,c)))) r:=Z0o hp hk
theorem X3c{n:Nat}(h:S3 n):∀c x,Ck c->OkX x->2<=x.Kids.length->20*wE x+2<=n+1->Og Ep ((F2 (n+1)).F5 c x) (QV c (6*wE x-2)):=by
 intro c x hc hx h2 hn;show Og Ep (A4 (F2 n) c x) _;unfold A4
 dsimp only[jn]
 by_cases o1:x.Op=[38,38]
 . rw[c1 (dt o1)];exact Og.bind (h.both c 7 x hc hx h2 (by omega)) (fun y a=>Og.ok a) (fun e he=>Og.err he)
 rw[c0 (df o1)]
 by_cases o2:x.Op=[124,124]
 . rw[c1 (dt o2)];exact Og.bind (h.both c 8 x hc hx h2 (by omega)) (fun y a=>Og.ok a) (fun e he=>Og.err he)
 rw[c0 (df o2)];obtain⟨a,ha,ham⟩:=Q7v (k:=0) (show 0<x.Kids.length by omega);obtain⟨b,hb,hbm⟩:=Q7v (k:=1) (show 1<x.Kids.length by omega);have wa:=Z2e ham;have wb:=Z2e hbm;have pa:=Q2u a;have oa:=hx.kids a ham;have ob:=hx.kids b hbm;refine Og.step ha ?_;refine Og.step hb ?_;refine Og.bind (h.value c a hc oa (by omega)) (fun y3 a3=>?_) (fun e he=>Og.err he);refine Og.bind (h.value y3.2 b (hc.tg a3.1) ob (by omega)) (fun y4 a4=>?_) (fun e he=>Og.err he);have tg:=a3.1.trans a4.1;have da:=a3.2.mono (show 6*wE a<=6*wE x-6 by omega);have db:=a4.2.mono (show 6*wE b<=6*wE x-6 by omega);obtain⟨f,hf⟩:=Y4k x.Op;refine Og.step hf ?_;cases((y3.1.n==1)&&(y4.1.n==1))with
 |true=>exact Og.ok ⟨tg,Dp.k2 rfl da db (by omega)⟩
 |false=>
 rw[c0 (b:=false) rfl];cases((f==11)||(f==12))with
 |true=>exact Og.bind (equal_g a4.1.tab hx.e h2 (n:=6*wE x-6) (by omega) da db) (fun y q=>Og.ok ⟨tg,q.mono (by omega)⟩) (fun e he=>Og.err he)
 |false=>
 rw[c0 (b:=false) rfl];cases((f==1)&&(y3.1.n==1))with
 |true=>exact Og.bind (X1n a4.1.tab ob.pn db da f) (fun y q=>Og.ok ⟨tg,q.mono (by omega)⟩) (fun e he=>Og.err he)
 |false=>
 rw[c0 (b:=false) rfl];cases(((f==1)||(f==2))&&(y4.1.n==1))with
 |true=>exact Og.bind (X1n a4.1.tab oa.pn da db f) (fun y q=>Og.ok ⟨tg,q.mono (by omega)⟩) (fun e he=>Og.err he)
 |false=>
 rw[c0 (b:=false) rfl];cases(y3.1.n !=1)with
 |false=>rw[c0 (b:=false) rfl];exact Q0p ob.pn (by decide)
 |true=>
  rw[c1 (b:=true) rfl];obtain⟨p,hp⟩:=Q0d a4.1.tab y3.1.n;refine Og.step hp ?_;cases((!p)||((f !=1)&&(f !=2)))with
  |true=>rw[c1 (b:=true) rfl];exact Q0p oa.pn (by decide)
  |false=>rw[c0 (b:=false) rfl];exact Q0p ob.pn (by decide)
theorem X3d{n:Nat}(h:S3 n):∀c x,Ck c->OkX x->2<=x.Kids.length->x.Op≠[]->20*wE x+2<=n+1->Og Ep ((F2 (n+1)).F6 c x) (QV c (6*wE x-2)):=by
 intro c x hc hx h2 ho hn;show Og Ep (A5 (F2 n) c x) _;unfold A5
 dsimp only[jn]
 obtain⟨a,ha,ham⟩:=Q7v (k:=0) (show 0<x.Kids.length by omega);obtain⟨b,hb,hbm⟩:=Q7v (k:=1) (show 1<x.Kids.length by omega);have wa:=Z2e ham;have wb:=Z2e hbm;have pa:=Q2u a;have oa:=hx.kids a ham;have ob:=hx.kids b hbm;refine Og.step ha ?_;refine Og.step hb ?_;refine Og.bind (h.lying c a hc oa (by omega)) (fun y1 a1=>?_) (fun e he=>Og.err he);have da:=a1.2.mono (show 6*wE a-2<=6*wE x-6 by omega);refine Og.step (Q2v _ _) ?_;obtain⟨p,hp⟩:=Q0d a1.1.tab y1.1.n;refine Og.step hp ?_
 by_cases o1:x.Op=[61]
 . rw[c1 (dt o1)];refine Og.bind (h.value y1.2 b (hc.tg a1.1) ob (by omega)) (fun y4 a4=>?_) (fun e he=>Og.err he);have db:=a4.2.mono (show 6*wE b<=6*wE x-6 by omega);refine Og.bind (Z4h a4.1.tab ob.pn (n:=6*wE x-6) (by omega) db y1.1.n) (fun y5 a5=>?_) (fun e he=>Og.err he);obtain⟨k,hk⟩:=Z5e y4.2 y1.1.n;exact Og.step hk (Og.ok ⟨a1.1.trans a4.1,Dp.k2 rfl da a5 (by omega)⟩)
 rw[c0 (df o1)];have ol:1<=x.Op.length:=List.length_pos_iff.2 ho;have oq:x.Op.length<=70000:=match hx.e with| .mk _ _ o _ _ _ _=>o;rw[w64 (by omega),show((x.Op.length:Int)-1)=((x.Op.length-1:Nat):Int) by omega];refine Og.step (Z1u (b:=x.Op) (n:=x.Op.length-1) (by omega)) ?_;obtain⟨f,hf⟩:=Y4k (x.Op.take (x.Op.length-1));refine Og.step hf ?_
 have rest:∀t:Y1,U32 t.Num->Og Ep (((F2 n).V2 y1.2 b).bind fun y11=>exE y11 (fun y11=>(J7 y11.2 y1.1.n).bind fun y12=>some (qX ((⟨y12,{t with Kids:=([y1.1.term,y11.1]:List Y1)},false⟩:Z8),y11.2)))) (QV c (6*wE x-2)):=fun t nu=>by
  refine Og.bind (h.number y1.2 b (hc.tg a1.1) ob (by omega)) (fun y4 a4=>?_) (fun e he=>Og.err he);obtain⟨k,hk⟩:=Z5e y4.2 y1.1.n;exact Og.step hk (Og.ok ⟨a1.1.trans a4.1,Dp.k2 rfl da (a4.2.mono (show 6*wE b<=6*wE x-6 by omega)) (by omega) nu⟩)
 cases p with
 |false=>exact rest (⟨16,f,0,0,false,szT y1.2.t y1.1.n,false,false,[]⟩:Y1) Z5d
 |true=>
  rw[c1 (b:=true) rfl];obtain⟨e,q,hq⟩:=Z4s a1.1.tab y1.1.n;refine Og.step hq ?_;cases((!q)||((f !=1)&&(f !=2)))with
  |true=>rw[c1 (b:=true) rfl];exact Q0p oa.pn (by decide)
  |false=>
   rw[c0 (b:=false) rfl];refine Og.step (Q2v _ _) ?_;exact rest (⟨16,f,qJ .u32 (szT y1.2.t e),0,false,szT y1.2.t y1.1.n,false,true,[]⟩:Y1) (Z9s _)
theorem step_s3{n:Nat}(h:S3 n):∀c x,Ck c->OkX x->1<=x.Kids.length->20*wE x+2<=n+1->Og Ep ((F2 (n+1)).B4 c x) (QV c (6*wE x-2)):=by
 intro c x hc hx h1 hn;show Og Ep (L5 (F2 n) c x) _;unfold L5
 dsimp only[jn]
 obtain⟨a,ha,ham⟩:=Q7v (k:=0) (show 0<x.Kids.length by omega);have wa:=Z2e ham;have pa:=Q2u a;have oa:=hx.kids a ham;refine Og.step ha ?_;refine Og.bind (h.lying c a hc oa (by omega)) (fun y1 a1=>?_) (fun e he=>Og.err he);have da:=a1.2.mono (show 6*wE a-2<=6*wE x-6 by omega);obtain⟨p,hp⟩:=Q0d a1.1.tab y1.1.n;obtain⟨k,hk⟩:=Z5e y1.2 y1.1.n
 have rest:∀m:Int,Og Ep ((U9 y1.2.t y1.1.n).bind fun y6=>(Y8 y1.2 y1.1.n).bind fun y7=>(J7 y1.2 y1.1.n).bind fun y8=>some (qX ((⟨y8,(⟨15,0,qJ .u32 m,0,false,y6,x.Kind==11,y7,([y1.1.term]:List Y1)⟩:Y1),false⟩:Z8),y1.2))) (QV c (6*wE x-2)):=fun m=>by
  refine Og.step (Q2v _ _) ?_;refine Og.step hp ?_;exact Og.step hk (Og.ok ⟨a1.1,Dp.k1 rfl da (by omega)⟩)
 have both:∀m:Int,Og Ep (bif decide (x.Op=([45,45]:List UInt8))then((U9 y1.2.t y1.1.n).bind fun y6=>(Y8 y1.2 y1.1.n).bind fun y7=>(J7 y1.2 y1.1.n).bind fun y8=>some (qX ((⟨y8,(⟨15,0,qJ .u32 (qJ .i64 (0-m)),0,false,y6,x.Kind==11,y7,([y1.1.term]:List Y1)⟩:Y1),false⟩:Z8),y1.2)))else((U9 y1.2.t y1.1.n).bind fun y6=>(Y8 y1.2 y1.1.n).bind fun y7=>(J7 y1.2 y1.1.n).bind fun y8=>some (qX ((⟨y8,(⟨15,0,qJ .u32 m,0,false,y6,x.Kind==11,y7,([y1.1.term]:List Y1)⟩:Y1),false⟩:Z8),y1.2)))) (QV c (6*wE x-2)):=fun m=>by
  cases decide (x.Op=([45,45]:List UInt8))with
  |true=>exact rest _
  |false=>exact rest _
 refine Og.step hp ?_;cases p with
 |false=>exact both 1
 |true=>
  rw[c1 (b:=true) rfl];obtain⟨e,q,hq⟩:=Z4s a1.1.tab y1.1.n;refine Og.step hq ?_;cases q with
  |false=>rw[c1 (b:=!false) rfl];exact Q0p oa.pn (by decide)
  |true=>
   rw[c0 (b:=!true) rfl];refine Og.step (Q2v _ _) ?_;exact both _
theorem Dp.kk{n m:Nat}{t:Y1}(h:∀k∈t.Kids,Dp n k)(hm:n+1<=m)(nu:U32 t.Num:=by first|exact Z5d|exact Z9s _)(kl:t.Kids.length<=100000:=by simp):Dp m t:=Dp.mono (.mk h nu kl) hm
theorem d3{n:Nat}{a b c:Y1}(ha:Dp n a)(hb:Dp n b)(hc:Dp n c):∀k∈([a,b,c]:List Y1),Dp n k:=by
 intro k hk
 simp only[qZ,List.not_mem_nil,or_false]at hk
 rcases hk with rfl|rfl|rfl<;>assumption
theorem cond_s3{n:Nat}(h:S3 n):∀c x,Ck c->OkX x->3<=x.Kids.length->20*wE x+2<=n+1->Og Ep ((F2 (n+1)).B6 c x) (QV c (6*wE x-2)):=by
 intro c x hc hx h3 hn;show Og Ep (L7 (F2 n) c x) _;unfold L7
 dsimp only[jn]
 obtain⟨a,ha,ham⟩:=Q7v (k:=1) (show 1<x.Kids.length by omega);obtain⟨b,hb,hbm⟩:=Q7v (k:=2) (show 2<x.Kids.length by omega);obtain⟨q,hq,hqm⟩:=Q7v (k:=0) (show 0<x.Kids.length by omega);have wa:=Z2e ham;have wb:=Z2e hbm;have wq:=Z2e hqm;have oa:=hx.kids a ham;have ob:=hx.kids b hbm;have oq:=hx.kids q hqm;have pa:=Q2u a;refine Og.step ha ?_;refine Og.step hb ?_;refine Og.step hq ?_;refine Og.bind (h.asked c q hc oq (by omega)) (fun y1 a1=>?_) (fun e he=>Og.err he);refine Og.bind (h.value y1.2 a (hc.tg a1.1) oa (by omega)) (fun y2 a2=>?_) (fun e he=>Og.err he);refine Og.bind (h.value y2.2 b ((hc.tg a1.1).tg a2.1) ob (by omega)) (fun y3 a3=>?_) (fun e he=>Og.err he);have tg:=(a1.1.trans a2.1).trans a3.1;have tb:=a3.1.tab;have dq:=a1.2.mono (show 6*wE q<=6*wE x-6 by omega);have da:=a2.2.mono (show 6*wE a<=6*wE x-6 by omega);have db:=a3.2.mono (show 6*wE b<=6*wE x-6 by omega);obtain⟨v3,⟨c1',c2',c3',c4',c5',c6',c7'⟩⟩:=y3
 dsimp only at tg tb db⊢
 obtain⟨p,hp⟩:=Q0d (c:=⟨c1',c2',c3',c4',c5',c6',c7'⟩) tb y2.1.n;obtain⟨r,hr⟩:=Q0d (c:=⟨c1',c2',c3',c4',c5',c6',c7'⟩) tb v3.n;obtain⟨za,hza⟩:=Z7v a;obtain⟨zb,hzb⟩:=Z7v b;have hno:Q1t=some (⟨1,0,0,0,false,0,false,true,[]⟩:Y1):=rfl;have d0:Dp (6*wE x-6) (⟨1,0,0,0,false,0,false,true,[]⟩:Y1):=Dp.k0 rfl (by omega);have hwn:=Z4h (c:=⟨c1',c2',c3',c4',c5',c6',c7'⟩) tb ob.pn (n:=6*wE x-6) (by omega) db y2.1.n
 simp only[hp,hr,hza,hzb,hno,qV]
 cases p<;>cases r<;>cases za<;>cases zb<;>cases(y2.1.n==1)<;>cases(v3.n==1)<;>cases(y2.1.n==v3.n)<;>cases(y2.1.n !=1)<;>simp only[cond_true,cond_false,Bool.not_true,Bool.not_false,Bool.and_true,Bool.and_false]<;>first
  |exact Q0p oa.pn (by decide)
  |exact Q0p ob.pn (by decide)
  |exact Og.ok ⟨tg,Dp.kk (d3 dq da db) (by omega)⟩
  |exact Og.ok ⟨tg,Dp.kk (d3 dq d0 db) (by omega)⟩
  |exact Og.bind hwn (fun y6 a6=>Og.step rfl (Og.step rfl (Og.ok ⟨tg,Dp.kk (d3 dq da a6) (by omega)⟩))) (fun e he=>Og.err he)
  |exact Og.step rfl (Og.step rfl (Og.ok ⟨tg,Dp.kk (d3 dq d0 db) (by omega)⟩))
theorem X2j{n:Nat}(h:S3 n):∀c x,Ck c->OkX x->1<=x.Kids.length->20*wE x+2<=n+1->Og Ep ((F2 (n+1)).F4 c x) (QV c (6*wE x-2)):=by
 intro c x hc hx h1 hn;show Og Ep (A1 (F2 n) c x) _;unfold A1
 dsimp only[jn]
 obtain⟨a,ha,ham⟩:=Q7v (k:=0) (show 0<x.Kids.length by omega);have wa:=Z2e ham;have pa:=Q2u a;have oa:=hx.kids a ham;refine Og.step ha ?_;refine Og.bind (h.expr c a hc oa (by omega)) (fun y1 a1=>?_) (fun e he=>Og.err he);have da:=a1.2.mono (show 6*wE a-2<=6*wE x-6 by omega)
 have rest:∀(v:Z8)(c':Q0),Tg c c'->Dp (6*wE x-5) v.term->Og Ep ((M5 c'.t v.n).bind fun y5=>bif ((!v.lies)||(y5.1.Kind !=5))then((X0 a.Pos 5).bind fun y6=>exC y6 (fun y6=>none) (fun e3=>some (qK (e3,{c' with t:=c'.t}))))else((Q3f c'.t v.n x.Name).bind fun y7=>(R4 x.Pos y7.2).bind fun y8=>exC y8 (fun y8=>(U9 c'.t y7.1.Type_).bind fun y9=>some (qX ((⟨y7.1.Type_,(⟨13,0,qJ .u32 y7.1.At,0,false,y9,false,true,([v.term]:List Y1)⟩:Y1),true⟩:Z8),{c' with t:=c'.t}))) (fun e4=>some (qK (e4,{c' with t:=c'.t}))))) (QV c (6*wE x-2)):=by
  intro v c' tg dv;refine Og.step (Z2n tg.tab _) ?_;cases((!v.lies)||((tyT c'.t v.n).1.Kind !=5))with
  |true=>rw[c1 (b:=true) rfl];exact Q0p oa.pn (by decide)
  |false=>
   rw[c0 (b:=false) rfl];obtain⟨f,e,hf⟩:=X2t tg.tab v.n x.Name;refine Og.step hf ?_;refine X0l hx.pn fun _=>?_;refine Og.step (Q2v _ _) ?_;exact Og.ok ⟨tg,Dp.k1 rfl dv (by omega)⟩
 by_cases o1:x.Op=[45,62]
 . rw[c1 (dt o1)];refine Og.bind (X0a a1.1.tab oa.pn da) (fun y2 a2=>?_) (fun e he=>Og.err he);have tg:=a1.1.trans a2.1;have hb:=a2.1.back;obtain⟨e,q,hq⟩:=Z4s a2.1.tab y2.1.n;rw[hb];refine Og.step hq ?_;cases q with
   |false=>rw[c1 (b:=!false) rfl];exact Q0p oa.pn (by decide)
   |true=>
    rw[c0 (b:=!true) rfl];exact rest (⟨e,y2.1.term,true⟩:Z8) y2.2 tg (a2.2.mono (by omega))
 . rw[c0 (df o1)];exact rest y1.1 y1.2 a1.1 (da.mono (by omega))
end Go.Proofs.YtfffghclkmbopaaGreat
