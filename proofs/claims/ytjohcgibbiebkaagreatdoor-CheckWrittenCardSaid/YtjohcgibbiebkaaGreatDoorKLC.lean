/- Lemmas that hold for every program. -/
import Derived.Test.YtjohcgibbiebkaaGreatDoorKM
import Derived.Test.YtjohcgibbiebkaaGreatDoorKLB
import Derived.Lib.IndexBytes
set_option linter.unusedVariables false
namespace Go.Proofs.YtjohcgibbiebkaaGreatDoor
open List renaming length → qQ, length_append → qW, length_cons → qY, mem_cons → qZ, mem_append → jQ, length_singleton → qG, set → qP, append_assoc → qS, length_take → qE, mem_singleton → kQ, getElem?_eq_getElem → kM, getElem?_append_left → kR, getElem?_append_right → kS, append_nil → jK, cons_append → jX, mem_of_getElem? → jW, getElem_mem → jT
open IntKind renaming wrap → qJ
open Except renaming error → qK, ok → qX
open Option renaming bind_some → qV, isSome → kJ
open Int renaming toNat → qF, le_refl → qC, eq_ofNat_of_zero_le → jR
open Bool renaming and_eq_true → qM
open Nat renaming le_refl → qD, zero_le → kX, le_trans → jH
theorem bnd{α β:Type}{m:Option α}{x:α}{f:α->Option β}{X:Option β}(h:m=some x)(k:f x=X):m.bind f=X:=by subst h;exact k
theorem exb{α β:Type}{m:Option α}{x:α}{f:α->Option β}{p:β->Prop}(h:m=some x)(k:∃y,f x=some y/\p y):∃y,m.bind f=some y/\p y:=by subst h;exact k
def Y3d(n:Int):Bool:=(decide (97<=n)&&decide (n<=122))||(decide (65<=n)&&decide (n<=90))||n==95
def Y3f(n:Int):Bool:=decide (48<=n)&&decide (n<=57)
def O0(c:UInt8):Bool:=Y3d (c.toNat:Int)||Y3f (c.toNat:Int)
theorem Z4n(n:Int):Z2w n=some (Y3d n):=by
 unfold Z2w Y3d;cases decide (97<=n)<;>cases decide (n<=122)<;>cases decide (65<=n)<;>cases decide (n<=90)<;>rfl
theorem Z5g(n:Int):Z2x n=some (Y3f n):=by
 unfold Z2x Y3f;cases decide (48<=n)<;>rfl
theorem more_eq(c:UInt8):Y0x (c.toNat:Int)=some (O0 c):=by
 unfold Y0x O0;rw[Z4n,qV];cases Y3d (c.toNat:Int)with
 |true=>rfl
 |false=>rw[Aj,Z5g];rfl
def sp(p:UInt8->Bool):Aa->Nat
 |[]=>0
 |x::l=>if p x then sp p l+1 else 0
theorem Y0e(p:UInt8->Bool):∀l,sp p l<=l.length
 |[]=>qD _
 |x::l=>by
  have:=Y0e p l
  unfold sp
  split
  . simp;omega
  . omega
theorem X4d(p:UInt8->Bool):∀(l:Aa)(k:Nat)(h:k<sp p l),p (l[k]'(Nat.lt_of_lt_of_le h (Y0e p l)))=true
 |[],k,h=>by simp[sp]at h
 |x::l,0,h=>by
  unfold sp at h
  split at h
  . assumption
  . omega
 |x::l,k+1,h=>by
  have h':=h
  unfold sp at h'
  split at h'
  . simpa using X4d p l k (by omega)
  . omega
theorem X5i(p:UInt8->Bool):∀(l:Aa)(h:sp p l<l.length),p l[sp p l]=false
 |[],h=>by simp at h
 |x::l,h=>by
  by_cases hx:p x=true
  . have e:sp p (x::l)=sp p l+1:=by show(if p x then sp p l+1 else 0)=_;rw[if_pos hx]
    have h2:sp p l<l.length:=by rw[e]at h;simp at h;omega
    have:=X5i p l h2
    simp only[e,List.getElem_cons_succ]
    exact this
  . have e:sp p (x::l)=0:=by show(if p x then sp p l+1 else 0)=_;rw[if_neg hx]
    simp only[e,List.getElem_cons_zero]
    simpa using hx
theorem X5j(p:UInt8->Bool)(l:Aa)(hl:l.length<4611686018427387904){body:Int->Option (Lp Int Unit)}{A:Type}{K:Lp Int Unit->Option A}{X:Option A}
 (h1:∀k (h:k<l.length),body (k:Int)=some (bif p l[k]then .go (qJ .i64 ((k:Int)+1))else .brk (k:Int))) (h2:body (l.length:Int)=some (.brk (l.length:Int)))
 (hX:K (.brk ((sp p l:Nat):Int))=X):(loopM body NN 0).bind K=X:=by
 have hle:=Y0e p l;refine run_bind (fun k=>(k:Int)) (sp p l) (.brk ((sp p l:Nat):Int)) rfl (by omega) (fun k hk=>?_) ?_ trivial hX
 . rw[h1 k (by omega),X4d p l k hk,Ak,w64 (by omega)]
   congr 2
 . by_cases h:sp p l<l.length
   . rw[h1 _ h,X5i p l h,Aj]
   . rw[show sp p l=l.length by omega];exact h2
theorem Y0c(l:Aa)(hl:l.length<4611686018427387904):Z1b l=some ((sp O0 l:Nat):Int):=by
 unfold Z1b;refine X5j O0 l hl (fun k hk=>?_) (by rw[c0 (dge _)]) rfl;rw[c1 (dlt hk),E8 hk,qV,more_eq,qV];cases O0 l[k]<;>rfl
def Z0e:List (Aa):=[([98,114,101,97,107]:Aa),([99,97,115,101]:Aa),([99,104,97,114]:Aa),([99,111,110,116,105,110,117,101]:Aa),([100,101,102,97,117,108,116]:Aa),([100,111]:Aa),([101,108,115,101]:Aa),([102,111,114]:Aa),([105,102]:Aa),([105,110]:Aa),([105,110,116]:Aa),([111,117,116]:Aa),([114,101,116,117,114,110]:Aa),([115,105,122,101,111,102]:Aa),([115,116,114,117,99,116]:Aa),([115,119,105,116,99,104]:Aa),([118,111,105,100]:Aa),([119,104,105,108,101]:Aa)]
def Y5k(p:Aa):Bool:=Z0e.any fun w=>decide (p=w)
theorem wd1(b:Bool)(X:Option Bool):(bif b then(bif b then some true else some false)else X)=bif b then some true else X:=by cases b<;>rfl
theorem wd3(b:Bool):(bif b then some true else some false)=some b:=by cases b<;>rfl
theorem wd4(b x:Bool):(bif b then some b else some x)=some (b||x):=by cases b<;>rfl
theorem Y6r(p:Aa):Z5a p=some (Y5k p):=by
 unfold Z5a Y5k Z0e
 simp only[jn,wd3,wd4,List.any_cons,List.any_nil,Bool.or_false]
theorem Y3s{b:Aa}{n:Nat}(h:n<=b.length):sub b (n:Int) (b.length:Int)=some (b.drop n):=by
 unfold sub;rw[if_pos (by omega)]
 simp
theorem Z3h{b:Aa}{n:Nat}(h:n<=b.length):sub b 0 (n:Int)=some (b.take n):=by
 unfold sub;rw[if_pos (by omega)]
 simp
theorem Y7v(s p:Aa):C7 s p=some (decide (p<+:s)):=by
 unfold C7 Q4s
 by_cases h:p.length<=s.length
 . rw[c1 (dt (by omega)),Z3h h,qV,qV]
   congr 1
   refine decide_eq_decide.2 ⟨fun e=>List.prefix_iff_eq_take.2 e.symm,fun e=>(List.prefix_iff_eq_take.1 e).symm⟩
 . rw[c0 (df (by omega)),df (fun e=>h e.length_le)]
   rfl
def blB(c:UInt8):Bool:=(c.toNat:Int)==32||(c.toNat:Int)==9||(c.toNat:Int)==10||(c.toNat:Int)==13
theorem X7l(c:UInt8):Z3l (c.toNat:Int)=some (blB c):=by
 unfold Z3l blB;cases((c.toNat:Int)==32)<;>cases((c.toNat:Int)==9)<;>cases((c.toNat:Int)==10)<;>rfl
theorem span_eq(l:Aa)(hl:l.length<4611686018427387904):Y0v l=some ((sp blB l:Nat):Int):=by
 unfold Y0v;refine X5j blB l hl (fun k hk=>?_) (by rw[c0 (dge _)]) rfl;rw[c1 (dlt hk),E8 hk,qV,X7l,qV];cases blB l[k]<;>rfl
def blS(s:Aa):Int:=
 if[47,47]<+:s then(if 0<=Go.Lib.index s [10]then Go.Lib.index s [10]else s.length)
 else if[47,42]<+:s then(if Go.Lib.index (s.drop 2) [42,47]<0 then -1 else Go.Lib.index (s.drop 2) [42,47]+4)else((sp blB s:Nat):Int)
theorem X2t:∀(s sub:Aa),sub≠[]->0<=Go.Lib.index s sub->Go.Lib.index s sub+sub.length<=s.length
 |[],sub,hn,h=>by
  unfold Go.Lib.index at h
  rw[if_neg (by simpa using hn)]at h
  omega
 |b::l,sub,hn,h=>by
  unfold Go.Lib.index at h⊢
  by_cases h1:sub.isPrefixOf (b::l)=true
  . rw[if_pos h1]
    have:=(List.isPrefixOf_iff_prefix.1 h1).length_le
    omega
  . rw[if_neg h1]at h⊢
    by_cases h2:(Go.Lib.index l sub== -1)=true
    . rw[if_pos h2]at h;omega
    . rw[if_neg h2]at h⊢
      have hge:=Go.Lib.index_ge l sub
      have hne:Go.Lib.index l sub≠ -1:=by simpa using h2
      have:=X2t l sub hn (by omega)
      simp
      omega
theorem Y8j(s:Aa)(hl:s.length<=100000):Z4m s=some (blS s)/\blS s<=s.length:=by
 have hi:=Go.Lib.index_le s [10];have hsp:=Y0e blB s;unfold Z4m blS;rw[Y7v,qV]
 by_cases h1:([47,47]:Aa)<+:s
 . rw[dt h1,Ak,if_pos h1];unfold strings_Index;rw[if_pos (by omega),qV]
   by_cases h2:0<=Go.Lib.index s [10]
   . rw[c1 (dt h2),if_pos h2];exact⟨rfl,hi⟩
   . rw[c0 (df h2),if_neg h2];exact⟨rfl,by omega⟩
 . rw[df h1,Aj,if_neg h1,Y7v,qV]
   by_cases h2:([47,42]:Aa)<+:s
   . have hl2:=h2.length_le;have hi2:=Go.Lib.index_le (s.drop 2) [42,47];have hd:(s.drop 2).length=s.length-2:=by simp
     simp at hl2
     rw[dt h2,Ak,if_pos h2,show sub s 2 (s.length:Int)=some (s.drop 2)from Y3s hl2,qV];unfold strings_Index;rw[if_pos (by simp;omega),qV]
     by_cases h3:Go.Lib.index (s.drop 2) [42,47]<0
     . rw[c1 (dt h3),if_pos h3];exact⟨rfl,by omega⟩
     . rw[c0 (df h3),if_neg h3,w64 (by omega)];refine⟨rfl,?_⟩
       -- the instance lies within
       have:=X2t (s.drop 2) [42,47] (by decide) (by omega)
       simp at this
       omega
   . rw[df h2,Aj,if_neg h2,span_eq s (by omega),qV];exact⟨rfl,by omega⟩
def Z7u:Pos:=⟨0,0⟩
def tokZ:Y8:=⟨0,[],0,Z7u⟩
def Sepr(r:Aa):Prop:=∀c,r.head?=some c->blB c=true
theorem sp_all(p:UInt8->Bool):∀(l r:Aa),(∀x∈l,p x=true)->(∀c,r.head?=some c->p c=false)->sp p (l++r)=l.length
 |[],[],_,_=>rfl
 |[],c::r,_,h=>by
  show sp p (c::r)=0
  unfold sp
  rw[if_neg (by simp[h c rfl])]
 |x::l,r,h1,h2=>by
  show sp p (x::(l++r))=l.length+1
  unfold sp
  rw[if_pos (h1 x (by simp)),sp_all p l r (fun y hy=>h1 y (by simp[hy])) h2]
theorem Y0d(p:UInt8->Bool)(l:Aa):∀x∈l.take (sp p l),p x=true:=by
 intro x hx;obtain⟨k,hk,rfl⟩:=List.getElem_of_mem hx;have hle:=Y0e p l;have hk2:k<sp p l:=by simp at hk;omega
 rw[List.getElem_take];exact X4d p l k hk2
theorem Y1j{c:UInt8}(h:blB c=true):O0 c=false:=by
 have:∀n:_root_.Fin 256,blB (UInt8.ofNat n.val)=true->O0 (UInt8.ofNat n.val)=false:=by decide+kernel
 have h2:=this ⟨c.toNat,c.toNat_lt⟩
 simp only[UInt8.ofNat_toNat]at h2
 exact h2 h
theorem Y0u{c:UInt8}(h:O0 c=true):c≠10:=by
 rintro rfl
 revert h
 decide
theorem Z5p{l r:Aa}(h:∀x∈l,O0 x=true)(hr:Sepr r):sp O0 (l++r)=l.length:=sp_all _ l r h fun c hc=>Y1j (hr c hc)
structure Tok(t:Y8)(s:Aa):Prop where
 pre:t.Text<+:s
 ne:t.Text≠[]
 pos:t.Pos=Z7u
 nl:∀x∈t.Text,x≠10
 again:∀r,Sepr r->(t.Text++r).length<=100000->Q0r (t.Text++r)=some (t,0)
 nu:0<=t.Num/\t.Num<4294967296
theorem X1w(n:Int):∃w,Q5k n=some w:=by
 unfold Q5k;rw[Z5g,qV];cases Y3f n<;>cases decide (97<=n)<;>cases decide (n<=102)<;>cases decide (65<=n)<;>cases decide (n<=70)<;>exact⟨_,rfl⟩
def U32(n:Int):Prop:=0<=n/\n<4294967296
theorem Y1u(n:Int):U32 (qJ .u32 n):=by
 unfold U32
 simp only[qJ,IntKind.signed,IntKind.bits]
 simp
 omega
theorem Z6n:U32 0:=⟨by decide,by decide⟩
def numK(u1:Aa)(x1:Aa)(x2:Int):Option (Y8×Int):=bif decide (x1=([]:Aa))then(some ((⟨0,([]:Aa),0,(⟨0,0⟩:Pos)⟩:Y8),(3:Int)))else((Q1d (qQ x1)).bind fun _=>(loopM (fun(x3,x4,x5)=>(bif decide (x5<(qQ (N0 x1):Int))then(jn (fun kk2=>(idx (N0 x1) x5).bind fun u4=>(Q5k u4).bind fun y4=>bif decide (x2<=y4)then(some (Lp.ret ((⟨0,([]:Aa),0,(⟨0,0⟩:Pos)⟩:Y8),(3:Int))))else((Q5k u4).bind fun y5=>bif decide (4294967295<(qJ .u64 ((qJ .u64 (x3*x2))+y5)))then(kk2 (4294967295:Int) true)else(kk2 (qJ .u64 ((qJ .u64 (x3*x2))+y5)) x4))) (fun(x6:Int)(x7:Bool)=>some (Lp.go (x6,x7,qJ .i64 (x5+1)))))else(some (Lp.brk (x3,x4,x5))):Option (Lp (Int×Bool×Int) (Y8×Int)))) NN (0,false,0)).bind fun o=>o.thn (fun(x3,x4,x5)=>bif x4 then(some ((⟨0,([]:Aa),0,(⟨0,0⟩:Pos)⟩:Y8),(7:Int)))else(some ((⟨3,u1,qJ .u32 x3,(⟨0,0⟩:Pos)⟩:Y8),(0:Int)))) (fun r=>some r))
def numT(u1:Aa):Option (Y8×Int):=jn (fun kk1=>(C7 u1 ([48,120]:Aa)).bind fun y2=>bif y2 then((sub u1 2 (qQ u1:Int)).bind fun u3=>kk1 u3 (16:Int))else((C7 u1 ([48,88]:Aa)).bind fun y3=>bif y3 then((sub u1 2 (qQ u1:Int)).bind fun u2=>kk1 u2 (16:Int))else(kk1 u1 (10:Int)))) (numK u1)
theorem Y1p(s:Aa)(hl:s.length<=100000):Z1c s=numT (s.take (sp O0 s)):=by
 unfold Z1c;refine bnd (Y0c s (by omega)) ?_;refine bnd (Z3h (Y0e _ _)) rfl
theorem Y3a(u x:Aa)(b:Int)(hl:x.length<=100000):∃y,numK u x b=some y/\(y.2=0->y.1.Text=u/\y.1.Pos=Z7u/\U32 y.1.Num):=by
 unfold numK
 by_cases hx:x=[]
 . rw[c1 (dt hx)];exact⟨_,rfl,fun h=>by cases h⟩
 rw[c0 (df hx),M9 (by omega),qV];have hsl:(N0 x).length=x.length:=by simp[N0]
 obtain⟨o,ho,hp⟩:=Q4b (R:=Y8×Int) (body:=fun(x3,x4,x5)=>(bif decide (x5<(qQ (N0 x):Int))then(jn (fun kk2=>(idx (N0 x) x5).bind fun u4=>(Q5k u4).bind fun y4=>bif decide (b<=y4)then(some (Lp.ret ((⟨0,([]:Aa),0,(⟨0,0⟩:Pos)⟩:Y8),(3:Int))))else((Q5k u4).bind fun y5=>bif decide (4294967295<(qJ .u64 ((qJ .u64 (x3*b))+y5)))then(kk2 (4294967295:Int) true)else(kk2 (qJ .u64 ((qJ .u64 (x3*b))+y5)) x4))) (fun(x6:Int)(x7:Bool)=>some (Lp.go (x6,x7,qJ .i64 (x5+1)))))else(some (Lp.brk (x3,x4,x5))):Option (Lp (Int×Bool×Int) (Y8×Int))))
  (n:=NN) (s:=(0,false,0)) (fun s=>∃k:Nat,s.2.2=(k:Int)/\k<=x.length) (fun s=>x.length-s.2.2.toNat) (fun o=>(∃s,o= .brk s)\/o= .ret (tokZ,3)) ⟨0,rfl,by omega⟩ (Z1i (by dsimp only;omega)) (by
   rintro⟨a,f,i⟩ ⟨k,hk,hk2⟩
   dsimp only at hk⊢
   subst hk;rw[hsl]
   by_cases h:k<x.length
   . rw[c1 (dt (by omega))]
     simp only[jn]
     rw[E8 (by rw[hsl];exact h),qV];obtain⟨wv,hw⟩:=X1w (N0 x)[k];rw[hw,qV,qV]
     by_cases h1:b<=wv
     . rw[c1 (dt h1)];exact⟨_,rfl,.inr rfl⟩
     . rw[c0 (df h1)];cases decide (4294967295<(qJ .u64 ((qJ .u64 (a*b))+wv)))<;>exact⟨_,rfl,⟨k+1,by dsimp only;rw[w64 (by omega)];omega,by omega⟩,by dsimp only;rw[w64 (by omega)];omega⟩
   . rw[c0 (df (by omega))];exact⟨_,rfl,.inl ⟨_,rfl⟩⟩)
 refine exb ho ?_
 rcases hp with⟨⟨a,f,i⟩,rfl⟩|rfl
 . dsimp only[Lp.thn]
   cases f with
   |true=>exact⟨_,rfl,fun h=>by cases h⟩
   |false=>exact⟨_,rfl,fun _=>⟨rfl,rfl,Y1u _⟩⟩
 . exact⟨_,rfl,fun h=>by cases h⟩
theorem X4k(u:Aa)(hl:u.length<=100000):∃y,numT u=some y/\(y.2=0->y.1.Text=u/\y.1.Pos=Z7u/\U32 y.1.Num):=by
 unfold numT
 simp only[jn]
 refine exb (Y7v _ _) ?_
 by_cases h1:([48,120]:Aa)<+:u
 . have:=h1.length_le
   simp at this
   rw[dt h1,Ak];exact exb (Y3s (b:=u) (n:=2) this) (Y3a _ _ _ (by simp;omega))
 . rw[df h1,Aj];refine exb (Y7v _ _) ?_
   by_cases h2:([48,88]:Aa)<+:u
   . have:=h2.length_le
     simp at this
     rw[dt h2,Ak];exact exb (Y3s (b:=u) (n:=2) this) (Y3a _ _ _ (by simp;omega))
   . rw[df h2,Aj];exact Y3a _ _ _ hl
def cBq(a b c:UInt8):Bool:=(c.toNat:Int)==39&&(decide (32<=(b.toNat:Int))&&(decide ((b.toNat:Int)<=126)&&((b.toNat:Int)!=39&&(b.toNat:Int)!=92)))
def c3(a b c:UInt8):Y8×Int:=bif cBq a b c then(⟨3,[a,b,c],qJ .u32 (b.toNat:Int),Z7u⟩,0)else(tokZ,3)
theorem X7c(n:Int):∃y,Z1d n=some y:=by
 unfold Z1d jn;cases n==110<;>cases n==116<;>cases n==114<;>cases n==48<;>cases n==92<;>cases n==39<;>exact⟨_,rfl⟩
theorem Y8d(a b c:UInt8):Q2s [a,b,c]=some (c3 a b c):=by
 unfold Q2s c3 cBq;rw[c0 (by rfl),c1 (by rfl),show idx [a,b,c] 2=some c from rfl,show idx [a,b,c] 1=some b from rfl,show sub [a,b,c] 0 3=some [a,b,c]from rfl]
 simp only[qV]
 cases((c.toNat:Int)==39)<;>cases decide (32<=(b.toNat:Int))<;>cases decide ((b.toNat:Int)<=126)<;>cases((b.toNat:Int)!=39)<;>cases((b.toNat:Int)!=92)<;>rfl
theorem Y5f(a b c d:UInt8)(l:Aa):Q2s (a::b::c::d::l)=bif ((b.toNat:Int)==92&&(d.toNat:Int)==39)then(Z1d (c.toNat:Int)).bind (fun y=>bif y.2 then some ((⟨3,[a,b,c,d],qJ .u32 y.1,Z7u⟩:Y8),(0:Int))else some (tokZ,3))else some (c3 a b c):=by
 have hl:(((a::b::c::d::l).length:Nat):Int)=l.length+4:=by simp;omega
 have hs4:sub (a::b::c::d::l) 0 4=some [a,b,c,d]:=by unfold sub;rw[if_pos (by omega)];rfl
 have hs3:sub (a::b::c::d::l) 0 3=some [a,b,c]:=by unfold sub;rw[if_pos (by omega)];rfl
 unfold Q2s c3 cBq;rw[hl,c1 (dt (show(4:Int)<=l.length+4 by omega)),show idx (a::b::c::d::l) 1=some b from rfl,show idx (a::b::c::d::l) 2=some c from rfl,show idx (a::b::c::d::l) 3=some d from rfl,hs4,hs3,dt (show(3:Int)<=l.length+4 by omega)]
 simp only[qV,Ak]
 cases((b.toNat:Int)==92)<;>cases((d.toNat:Int)==39)<;>cases((c.toNat:Int)==39)<;>cases decide (32<=(b.toNat:Int))<;>cases decide ((b.toNat:Int)<=126)<;>cases((b.toNat:Int)!=39)<;>cases((b.toNat:Int)!=92)<;>rfl
theorem X7f(s:Aa):∃y,Q2s s=some y/\(y.2=0->y.1.Text<+:s/\y.1.Text≠[]/\y.1.Pos=Z7u/\(∀x∈y.1.Text,x=s.headD 0\/x≠10)/\U32 y.1.Num/\∀r,Q2s (y.1.Text++r)=some (y.1,0)):=by
 have short:∀l:Aa,l.length<3->Q2s l=some (tokZ,3):=fun l h=>by
  unfold Q2s;rw[c0 (df (by omega)),c0 (df (by omega))]
  rfl
 have three:∀(a b c:UInt8)(l:Aa),(c3 a b c).2=0->(c3 a b c).1.Text=[a,b,c]/\(c3 a b c).1.Pos=Z7u/\b≠10/\c≠10/\U32 (c3 a b c).1.Num/\∀r,Q2s ([a,b,c]++r)=some ((c3 a b c).1,0):=by
  intro a b c l h
  have hb:cBq a b c=true:=by
   cases hh:cBq a b c with
   |true=>rfl
   |false=>unfold c3 at h;rw[hh]at h;cases h
  have hc3:c3 a b c=(⟨3,[a,b,c],qJ .u32 (b.toNat:Int),Z7u⟩,0):=by unfold c3;rw[hb];rfl
  have hb2:=hb;unfold cBq at hb2
  simp only[qM,beq_iff_eq,decide_eq_true_eq,bne_iff_ne]at hb2
  rw[hc3];refine⟨rfl,rfl,?_,?_,Y1u _,fun r=>?_⟩
  . rintro rfl;have:=hb2.2.1;simp at this
  . rintro rfl;have:=hb2.1;simp at this
  . cases r with
    |nil=>rw[jK,Y8d,hc3]
    |cons d r=>
     show Q2s (a::b::c::d::r)=_;rw[Y5f,c0 (by simp[hb2.2.2.2.2]),hc3]
 match s with
 |[]=>exact⟨_,short _ (by simp),fun h=>by cases h⟩
 |[a]=>exact⟨_,short _ (by simp),fun h=>by cases h⟩
 |[a,b]=>exact⟨_,short _ (by simp),fun h=>by cases h⟩
 |[a,b,c]=>
  refine⟨_,Y8d a b c,fun h=>?_⟩;obtain⟨e1,e2,e3,e4,e6,e5⟩:=three a b c [] h;rw[e1];refine⟨⟨[],rfl⟩,by simp,e2,fun x hx=>?_,e6,e5⟩
  simp only[qZ,List.not_mem_nil,or_false]at hx
  rcases hx with rfl|rfl|rfl
  . exact .inl rfl
  . exact .inr e3
  . exact .inr e4
 |a::b::c::d::l=>
  rw[Y5f];cases hbd:((b.toNat:Int)==92&&(d.toNat:Int)==39)with
  |false=>
   refine⟨_,rfl,fun h=>?_⟩;obtain⟨e1,e2,e3,e4,e6,e5⟩:=three a b c [] h;rw[e1];refine⟨⟨d::l,rfl⟩,by simp,e2,fun x hx=>?_,e6,e5⟩
   simp only[qZ,List.not_mem_nil,or_false]at hx
   rcases hx with rfl|rfl|rfl
   . exact .inl rfl
   . exact .inr e3
   . exact .inr e4
  |true=>
   rw[Ak];obtain⟨⟨v,ok⟩,he⟩:=X7c (c.toNat:Int);refine exb he ?_;cases ok with
   |false=>exact⟨_,rfl,fun h=>by cases h⟩
   |true=>
    refine⟨_,rfl,fun _=>⟨⟨l,rfl⟩,by simp,rfl,fun x hx=>?_,Y1u _,fun r=>?_⟩⟩
    . dsimp only at hx
      simp only[qM,beq_iff_eq]at hbd
      simp only[qZ,List.not_mem_nil,or_false]at hx
      rcases hx with rfl|rfl|rfl|rfl
      . exact .inl rfl
      . right;rintro rfl;have:=hbd.1;simp at this
      . right
        rintro rfl;have:Z1d (((10:UInt8).toNat:Nat):Int)=some (0,false):=rfl;rw[this]at he;cases he
      . right;rintro rfl;have:=hbd.2;simp at this
    . show Q2s (a::b::c::d::r)=_;rw[Y5f,hbd,Ak,he]
      rfl
def Q0f:List (Aa):=[([60,60,61]:Aa),([62,62,61]:Aa),([45,62]:Aa),([43,43]:Aa),([45,45]:Aa),([60,60]:Aa),([62,62]:Aa),([60,61]:Aa),([62,61]:Aa),([61,61]:Aa),([33,61]:Aa),([38,38]:Aa),([124,124]:Aa),([43,61]:Aa),([45,61]:Aa),([42,61]:Aa),([47,61]:Aa),([37,61]:Aa),([38,61]:Aa),([124,61]:Aa),([94,61]:Aa),([43]:Aa),([45]:Aa),([42]:Aa),([47]:Aa),([37]:Aa),([38]:Aa),([124]:Aa),([94]:Aa),([126]:Aa),([33]:Aa),([60]:Aa),([62]:Aa),([61]:Aa),([63]:Aa),([58]:Aa),([59]:Aa),([44]:Aa),([46]:Aa),([40]:Aa),([41]:Aa),([91]:Aa),([93]:Aa),([123]:Aa),([125]:Aa)]
def Z0h(s:Aa):Aa:=match Q0f.findIdx? (fun m=>decide (m<+:s))with
 |some k=>Q0f.getD k []
 |none=>[]
theorem Y6n(s:Aa):Z6v s=some (Z0h s):=by
 unfold Z6v Z0h;refine Y9m Q0f (fun m=>decide (m<+:s)) (fun k=>Q0f.getD k []) (by decide) (fun k hk=>?_) (by rfl) ?_
 . show(bif decide ((k:Int)<(Q0f.length:Int))then _ else _)=_;rw[c1 (dlt hk)];refine bnd (x:=Q0f[k]) (E8 hk) ?_;refine bnd (Y7v _ _) ?_;rw[show Q0f.getD k []=Q0f[k] by simp[hk]];cases decide (Q0f[k]<+:s)<;>rfl
 . cases Q0f.findIdx? _<;>rfl
theorem Y7p:∀m∈Q0f,m≠[]/\∀x∈m,blB x=false/\x≠10:=by decide+kernel
theorem X5p{m t r:Aa}(hm:∀x∈m,blB x=false)(hr:Sepr r)(h:m<+:t++r):m<+:t:=by
 by_cases hl:m.length<=t.length
 . exact List.prefix_of_prefix_length_le h (List.prefix_append t r) hl
 . exfalso
   obtain⟨q,hq⟩:=h;have hlt:t.length<m.length:=by omega
   have h1:(m++q)[t.length]?=m[t.length]?:=kR hlt;rw[hq,kS (qD _),Nat.sub_self]at h1;rw[kM hlt]at h1;have h2:=hr m[t.length] (by rw[List.head?_eq_getElem?];exact h1);rw[hm _ (jT hlt)]at h2;cases h2
theorem Y9k(s:Aa)(h:Z0h s≠[]):Z0h s<+:s/\(∀x∈Z0h s,blB x=false/\x≠10)/\∀r,Sepr r->Z0h (Z0h s++r)=Z0h s:=by
 cases hf:Q0f.findIdx? (fun m=>decide (m<+:s))with
 |none=>exact absurd (by unfold Z0h;rw[hf]) h
 |some k=>
  obtain⟨hk,hp,hlt⟩:=List.findIdx?_eq_some_iff_getElem.1 hf;have hmk:Z0h s=Q0f[k]:=by unfold Z0h;rw[hf];simp[hk]
  rw[hmk];have hp':Q0f[k]<+:s:=by simpa using hp
  refine⟨hp',(Y7p _ (jT hk)).2,fun r hr=>?_⟩
  have:Q0f.findIdx? (fun m=>decide (m<+:Q0f[k]++r))=some k:=by
   refine List.findIdx?_eq_some_iff_getElem.2 ⟨hk,by simp,fun j hj=>?_⟩;have hn:=hlt j hj;intro hc;have hc':Q0f[j]<+:Q0f[k]++r:=by simpa using hc
   have:=X5p (fun x hx=>((Y7p _ (jT (Nat.lt_trans hj hk))).2 x hx).1) hr hc';exact absurd (this.trans hp') (by simpa using hn)
  unfold Z0h;rw[this]
  simp[hk]
theorem Y2w(s:Aa)(hs:s≠[])(hl:s.length<=100000):∃y,Q0r s=some y/\(y.2=0->Tok y.1 s):=by
 obtain⟨c,l,rfl⟩:∃c l,s=c::l:=by
  cases s with
  |nil=>exact absurd rfl hs
  |cons c l=>exact⟨c,l,rfl⟩
 have key:∀l',Q0r (c::l')=(bif Y3d (c.toNat:Int)then((Z1b (c::l')).bind fun y2=>(sub (c::l') 0 y2).bind fun u2=>bif decide (31<y2)then(some ((⟨1,u2,0,(⟨0,0⟩:Pos)⟩:Y8),(2:Int)))else(jn (fun kk1=>(Z5a u2).bind fun y3=>bif y3 then(kk1 (⟨2,u2,0,(⟨0,0⟩:Pos)⟩:Y8))else(kk1 (⟨1,u2,0,(⟨0,0⟩:Pos)⟩:Y8))) (fun(x1:Y8)=>some (x1,(0:Int)))))else(bif Y3f (c.toNat:Int)then((Z1c (c::l')).bind fun y5=>some (y5.1,y5.2))else(bif (UInt8.toNat c:Int)==39 then((Q2s (c::l')).bind fun y6=>some (y6.1,y6.2))else((Z6v (c::l')).bind fun y7=>bif decide (y7=([]:Aa))then(some ((⟨0,([]:Aa),0,(⟨0,0⟩:Pos)⟩:Y8),(3:Int)))else(some ((⟨4,y7,0,(⟨0,0⟩:Pos)⟩:Y8),(0:Int))))))):=fun l'=>by
  unfold Q0r;rw[show idx (c::l') 0=some c from rfl]
  simp only[qV,Z4n,Z5g]
 have hmore:Y3d (c.toNat:Int)=true\/Y3f (c.toNat:Int)=true->O0 c=true:=fun h=>by
  unfold O0
  rcases h with h|h<;>rw[h]<;>simp
 have hsp1:O0 c=true->1<=sp O0 (c::l):=fun h=>by
  show 1<=(if O0 c then sp O0 l+1 else 0);rw[if_pos h];omega
 rw[key];cases hlet:Y3d (c.toNat:Int)with
 |true=>
  rw[Ak];refine exb (Y0c _ (by omega)) ?_;refine exb (Z3h (Y0e _ _)) ?_;have h1:=hsp1 (hmore (.inl hlet));have hle:=Y0e O0 (c::l);have hall:=Y0d O0 (c::l)
  by_cases h31:(31:Int)<((sp O0 (c::l):Nat):Int)
  . rw[c1 (dt h31)];exact⟨_,rfl,fun h=>by cases h⟩
  . rw[c0 (df h31)]
    simp only[jn]
    have hlen:((c::l).take (sp O0 (c::l))).length=sp O0 (c::l):=by rw[qE];omega
    have htc:∃q,(c::l).take (sp O0 (c::l))=c::q:=by
     cases hn:sp O0 (c::l)with
     |zero=>omega
     |succ m=>exact⟨_,rfl⟩
    have hpre:=List.take_prefix (sp O0 (c::l)) (c::l)
    generalize(c::l).take (sp O0 (c::l))=u at hall hlen htc hpre⊢
    obtain⟨q,rfl⟩:=htc
    have hag:∀r,Sepr r->((c::q)++r).length<=100000->Q0r ((c::q)++r)=(Z5a (c::q)).bind fun y3=>bif y3 then(some ((⟨2,c::q,0,(⟨0,0⟩:Pos)⟩:Y8),(0:Int)))else(some ((⟨1,c::q,0,(⟨0,0⟩:Pos)⟩:Y8),(0:Int))):=fun r hr hlr=>by
     have hsp:=Z5p hall hr;rw[jX,key,hlet,Ak];refine bnd (Y0c _ (by rw[jX]at hlr;omega)) ?_;rw[<-jX,hsp];refine bnd (x:=c::q) ?_ ?_
     . rw[Z3h (by simp)];simp
     . rw[c0 (df (by rw[hlen];exact h31))]
       rfl
    rw[Y6r,qV];rw[Y6r]at hag;cases hw:Y5k (c::q)with
    |true=>exact⟨_,rfl,fun _=>⟨hpre,by simp,rfl,fun x hx=>Y0u (hall x hx),fun r hr hlr=>by rw[show(⟨2,c::q,0,Z7u⟩:Y8).Text=c::q from rfl,hag r hr hlr,hw];rfl,Z6n⟩⟩
    |false=>exact⟨_,rfl,fun _=>⟨hpre,by simp,rfl,fun x hx=>Y0u (hall x hx),fun r hr hlr=>by rw[show(⟨1,c::q,0,Z7u⟩:Y8).Text=c::q from rfl,hag r hr hlr,hw];rfl,Z6n⟩⟩
 |false=>
  rw[Aj];cases hdig:Y3f (c.toNat:Int)with
  |true=>
   rw[Ak,Y1p _ hl];have h1:=hsp1 (hmore (.inr hdig));have hall:=Y0d O0 (c::l);have hlen:((c::l).take (sp O0 (c::l))).length=sp O0 (c::l):=by have:=Y0e O0 (c::l);rw[qE];omega
   have htc:∃q,(c::l).take (sp O0 (c::l))=c::q:=by
    cases hn:sp O0 (c::l)with
    |zero=>omega
    |succ m=>exact⟨_,rfl⟩
   have hpre:=List.take_prefix (sp O0 (c::l)) (c::l)
   generalize(c::l).take (sp O0 (c::l))=u at hall hlen htc hpre⊢
   obtain⟨q,rfl⟩:=htc;obtain⟨⟨t,e⟩,hy,hp⟩:=X4k (c::q) (jH hpre.length_le hl);refine exb hy ?_;refine⟨_,rfl,fun he=>?_⟩
   dsimp only at he hp
   obtain⟨e1,e2,e3⟩:=hp he;subst he;refine⟨by dsimp only;rw[e1];exact hpre,by dsimp only;rw[e1];simp,e2,fun x hx=>Y0u (hall x (by dsimp only at hx;rwa[e1]at hx)),fun r hr hlr=>?_,e3⟩
   dsimp only at hlr⊢
   rw[e1]at hlr⊢;rw[jX,key,hlet,Aj,hdig,Ak,<-jX,Y1p _ hlr,Z5p hall hr];rw[List.take_append_of_le_length (qD _),List.take_length,hy]
   rfl
  |false=>
   rw[Aj];cases hq:((c.toNat:Int)==39)with
   |true=>
    rw[Ak];obtain⟨⟨t,e⟩,hy,hp⟩:=X7f (c::l);refine exb hy ?_;refine⟨_,rfl,fun he=>?_⟩
    dsimp only at he hp
    obtain⟨p1,p2,p3,p4,p6,p5⟩:=hp he;subst he;refine⟨p1,p2,p3,fun x hx=>?_,fun r hr hlr=>?_,p6⟩
    . rcases p4 x hx with h|h
      . rw[h];rintro h10;rw[show(c::l).headD 0=c from rfl]at h10;subst h10
        simp at hq
      . exact h
    . have hc:∃q,t.Text=c::q:=by
       obtain⟨z,hz⟩:=p1;cases htt:t.Text with
       |nil=>exact absurd htt p2
       |cons x q=>rw[htt]at hz;cases hz;exact⟨q,rfl⟩
      obtain⟨q,hq2⟩:=hc;have:=p5 r
      dsimp only at this⊢
      rw[hq2,jX]at this⊢;rw[key,hlet,Aj,hdig,Aj,hq,Ak,this]
      rfl
   |false=>
    rw[Aj];refine exb (Y6n _) ?_
    by_cases hm:Z0h (c::l)=[]
    . rw[c1 (dt hm)];exact⟨_,rfl,fun h=>by cases h⟩
    . rw[c0 (df hm)];obtain⟨p1,p2,p3⟩:=Y9k _ hm;refine⟨_,rfl,fun _=>⟨p1,hm,rfl,fun x hx=>(p2 x hx).2,fun r hr hlr=>?_,Z6n⟩⟩
      dsimp only at hlr⊢
      have p3':=p3 r hr
      have hc:∃q,Z0h (c::l)=c::q:=by
       obtain⟨z,hz⟩:=p1;cases htt:Z0h (c::l)with
       |nil=>exact absurd htt hm
       |cons x q=>rw[htt]at hz;cases hz;exact⟨q,rfl⟩
      generalize Z0h (c::l)=mm at hc p3' hm hlr⊢
      obtain⟨q,rfl⟩:=hc;rw[jX]at p3'⊢;rw[key,hlet,Aj,hdig,Aj,hq,Aj,Y6n,qV,p3',c0 (df hm)]
def Z4v(t:Y8):Y8:={t with Pos:=Z7u}
inductive Lx:Aa->List Y8->Prop
 |nil:Lx [] []
 |blank {s:Aa} {ts:List Y8} (h:s≠[]) (n:Nat) (hn:blS s=(n:Int)) (h0:0<n) (k:Lx (s.drop n) ts):Lx s ts
 |tok {s:Aa} {t:Y8} {ts:List Y8} (h:s≠[]) (hb:blS s=0) (ht:Q0r s=some (t,0)) (k:Lx (s.drop t.Text.length) ts):Lx s (t::ts)
def adv(p:Pos):Aa->Pos
 |[]=>p
 |c::l=>adv (if c=10 then⟨p.Line+1,1⟩else⟨p.Line,p.Col+1⟩) l
theorem adv_app(p:Pos):∀(a b:Aa),adv p (a++b)=adv (adv p a) b:=by
 intro a
 induction a generalizing p with
 |nil=>intro b;rfl
 |cons c a ih=>intro b;exact ih _ b
def Pn(p:Pos):Prop:=p≠(⟨0,0⟩:Pos)
def Y6b:Aa:=[111,117,116]
structure Y2s(p:Pos)(m:Nat):Prop where
 l:1<=p.Line/\p.Line<=m
 c:0<=p.Col/\p.Col<=m
theorem Y2s.pn{p:Pos}{m:Nat}(h:Y2s p m):Pn p:=fun e=>by have:=h.l;rw[e]at this;exact absurd this.1 (by decide)
theorem X4y{p:Pos}{m:Nat}(h:Y2s p m)(h1:1<=m):∀a:Aa,Y2s (adv p a) (m+a.length):=by
 intro a
 induction a generalizing p m with
 |nil=>exact h
 |cons c a ih=>
  have hl:=h.l;have hc:=h.c
  have:Y2s (if c=10 then⟨p.Line+1,1⟩else⟨p.Line,p.Col+1⟩) (m+1):=by
   split
   . exact⟨by dsimp only;omega,by dsimp only;omega⟩
   . exact⟨by dsimp only;omega,by dsimp only;omega⟩
  have:=ih this (by omega);rw[show m+(c::a).length=m+1+a.length by simp;omega];exact this
theorem X5k{s:Aa}{p:Pos}{m:Nat}(h:Y2s p m)(h1:1<=m)(hm:m+s.length<=1000000){n:Nat}(hn:n<=s.length):Q1k ⟨s,p⟩ (n:Int)=some ⟨s.drop n,adv p (s.take n)⟩:=by
 unfold Q1k
 dsimp only
 rw[Z3h hn,qV];have hlen:(s.take n).length=n:=by rw[qE];omega
 generalize hu:s.take n=u at hlen⊢
 rw[M9 (by omega),qV];have hsl:(N0 u).length=u.length:=by simp[N0]
 refine run_bind (fun k=>((k:Int),(⟨s,adv p (u.take k)⟩:M3))) u.length (.brk ((u.length:Int),⟨s,adv p u⟩)) rfl (by omega) (fun k hk=>?_) ?_ trivial ?_
 . dsimp only
   have hp:=X4y h h1 (u.take k);have hl:=hp.l;have hc:=hp.c;have hkl:(u.take k).length=k:=by rw[qE];omega
   rw[hkl]at hl hc;rw[c1 (dt (by rw[hsl];omega))]
   simp only[jn]
   rw[E8 (by rw[hsl];exact hk),qV,List.take_succ_eq_append_getElem hk,adv_app];have e:(N0 u)[k]'(by rw[hsl];exact hk)=(u[k].toNat:Int):=by simp[N0]
   rw[e,w64 (x:=(k:Int)+1) (by omega)]
   by_cases h10:u[k]=10
   . rw[c1 (by rw[h10];rfl),w64 (by omega)];show _=some (Lp.go (((k+1:Nat):Int),(⟨s,(if u[k]=10 then⟨(adv p (u.take k)).Line+1,1⟩else⟨(adv p (u.take k)).Line,(adv p (u.take k)).Col+1⟩)⟩:M3)));rw[if_pos h10]
     rfl
   . rw[c0 (by simp;intro hh;exact h10 (UInt8.toNat_inj.1 (by rw[show(10:UInt8).toNat=10 from rfl];omega))),w64 (by omega)];show _=some (Lp.go (((k+1:Nat):Int),(⟨s,(if u[k]=10 then⟨(adv p (u.take k)).Line+1,1⟩else⟨(adv p (u.take k)).Line,(adv p (u.take k)).Col+1⟩)⟩:M3)));rw[if_neg h10]
     rfl
 . dsimp only
   rw[hsl,c0 (dge _),List.take_length]
 . dsimp only[Lp.thn]
   rw[Y3s hn,qV]
def Z5t:List Y8×M3->Option (Lp (List Y8×M3) (List Y8×Pos×Int)):=fun(x1,x2)=>(bif !(decide (x2.s=([]:Aa)))then((Z4m x2.s).bind fun y1=>bif decide (y1<0)then(some (Lp.ret ([],x2.pos,(3:Int))))else(bif decide (0<y1)then((Q1k x2 y1).bind fun y2=>some (Lp.go (x1,y2)))else((Q0r x2.s).bind fun y3=>bif y3.2 !=0 then(some (Lp.ret ([],x2.pos,y3.2)))else((Q1d (qQ x1+qQ ([{y3.1 with Pos:=x2.pos}]:List Y8))).bind fun _=>(Q1k x2 (qQ y3.1.Text:Int)).bind fun y4=>some (Lp.go (x1++([{y3.1 with Pos:=x2.pos}]:List Y8),y4))))))else(some (Lp.brk (x1,x2))))
theorem X4v{x1:List Y8}{s:Aa}{p:Pos}{m:Nat}(h:Y2s p m)(h1:1<=m)(hm:m+s.length<=1000000)(hl:s.length<=100000)(hs:s≠[]){n:Nat}(hn:blS s=(n:Int))(h0:0<n):
 Z5t (x1,⟨s,p⟩)=some (.go (x1,⟨s.drop n,adv p (s.take n)⟩)):=by
 have hb:=Y8j s hl;unfold Z5t
 dsimp only
 rw[c1 (by simpa using hs)];refine bnd hb.1 ?_;rw[hn,c0 (df (by omega)),c1 (dt (by omega))];refine bnd (X5k h h1 hm (by omega)) rfl
theorem body_tok{x1:List Y8}{s:Aa}{p:Pos}{m:Nat}(h:Y2s p m)(h1:1<=m)(hm:m+s.length<=1000000)(hl:s.length<=100000)(hx:x1.length<=1000000)(hs:s≠[])(hb:blS s=0){t:Y8}(ht:Q0r s=some (t,0))(hpre:t.Text<+:s):
 Z5t (x1,⟨s,p⟩)=some (.go (x1++[{t with Pos:=p}],⟨s.drop t.Text.length,adv p t.Text⟩)):=by
 have hbe:=Y8j s hl;have htake:s.take t.Text.length=t.Text:=(List.prefix_iff_eq_take.1 hpre).symm;unfold Z5t
 dsimp only
 rw[c1 (by simpa using hs)];refine bnd hbe.1 ?_;rw[hb,c0 (df (by omega)),c0 (df (by omega))];refine bnd ht ?_;rw[c0 (by rfl),M9 (by simp;omega),qV];refine bnd (X5k h h1 hm hpre.length_le) ?_;rw[htake]
theorem body_end{x1:List Y8}{p:Pos}:Z5t (x1,⟨[],p⟩)=some (.brk (x1,⟨[],p⟩)):=rfl
theorem posOk1:Y2s ⟨1,1⟩ 1:=⟨by decide,by decide⟩
theorem Y9l(s:Aa)(hl:s.length<=65536):∃y,Z7z s=some y/\((y.2.2=0/\Lx s (y.1.map Z4v)/\(∀t∈y.1,Pn t.Pos)/\Pn y.2.1)\/(y.2.2≠0/\y.1=[])):=by
 unfold Z7z;rw[c0 (df (by omega))]
 obtain⟨o,ho,hp⟩:=Q4b (R:=List Y8×Pos×Int) (body:=Z5t) (n:=NN) (s:=([],(⟨s,(⟨1,1⟩:Pos)⟩:M3)))
  (fun x=>x.2.s.length<=s.length/\Y2s x.2.pos (1+(s.length-x.2.s.length))/\x.1.length+x.2.s.length<=s.length/\(∀t∈x.1,Pn t.Pos)/\∀ts,Lx x.2.s ts->Lx s (x.1.map Z4v++ts)) (fun x=>x.2.s.length)
  (fun o=>(∃q p,o= .brk (q,⟨[],p⟩)/\Lx s (q.map Z4v)/\(∀t∈q,Pn t.Pos)/\Pn p)\/∃p e,o= .ret ([],p,e)/\e≠0)
  ⟨qD _,by dsimp only;rw[Nat.sub_self];exact posOk1,by simp,by simp,fun ts h=>h⟩ (Z1i (by dsimp only;omega)) (by
   rintro⟨x1,⟨u,p⟩⟩ ⟨h1,h2,h3,h5,h4⟩
   dsimp only at h1 h2 h3 h4 h5⊢
   by_cases hu:u=[]
   . subst hu;exact⟨_,body_end,.inl ⟨x1,p,rfl,by have:=h4 [] .nil;rwa[jK]at this,h5,h2.pn⟩⟩
   . have hb:=Y8j u (by omega)
     by_cases hneg:blS u<0
     . refine⟨.ret ([],p,3),?_,.inr ⟨p,3,rfl,by decide⟩⟩;unfold Z5t
       dsimp only
       rw[c1 (by simpa using hu)];refine bnd hb.1 ?_;rw[c1 (dt hneg)]
     . by_cases hpos:0<blS u
       . obtain⟨n,hn⟩:=jR (show 0<=blS u by omega);have htk:(u.take n).length=n:=by rw[qE];omega
         refine⟨_,X4v h2 (by omega) (by omega) (by omega) hu hn (by omega),⟨by dsimp only;rw[List.length_drop];omega,?_,by dsimp only;rw[List.length_drop];omega,h5,fun ts hts=>h4 ts (.blank hu n hn (by omega) hts)⟩,by dsimp only;rw[List.length_drop];omega⟩;have:=X4y h2 (by omega) (u.take n)
         dsimp only
         rw[List.length_drop,show 1+(s.length-(u.length-n))=1+(s.length-u.length)+(u.take n).length by omega];exact this
       . have hz:blS u=0:=by omega
         obtain⟨⟨t,e⟩,hy,hT⟩:=Y2w u hu (by omega)
         by_cases he:e=0
         . subst he;have hT:Tok t u:=hT rfl;have hpl:=hT.pre.length_le;have hne:1<=t.Text.length:=List.length_pos_iff.2 hT.ne;refine⟨_,body_tok h2 (by omega) (by omega) (by omega) (by omega) hu hz hy hT.pre,⟨by dsimp only;rw[List.length_drop];omega,?_,by dsimp only;rw[List.length_drop];simp;omega,by intro z hz;rcases jQ.1 hz with hz|hz;exact h5 z hz;rw[kQ.1 hz];exact h2.pn,fun ts hts=>?_⟩,by dsimp only;rw[List.length_drop];omega⟩
           . have:=X4y h2 (by omega) t.Text
             dsimp only
             rw[List.length_drop,show 1+(s.length-(u.length-t.Text.length))=1+(s.length-u.length)+t.Text.length by omega];exact this
           . have:=h4 (t::ts) (.tok hu hz hy hts)
             dsimp only
             rw[List.map_append,qS]
             have hst:Z4v {t with Pos:=p}=t:=by
              have:=hT.pos;obtain⟨a,b,c,d⟩:=t
              dsimp only at this
              subst this
              rfl
             rw[show List.map Z4v [{t with Pos:=p}]=[t] by rw[List.map_cons,hst];rfl];exact this
         . refine⟨.ret ([],p,e),?_,.inr ⟨p,e,rfl,he⟩⟩;unfold Z5t
           dsimp only
           rw[c1 (by simpa using hu)];refine bnd hb.1 ?_;rw[c0 (df hneg),c0 (df hpos)];refine bnd hy ?_;rw[c1 (by simpa using he)])
 refine exb ho ?_
 rcases hp with⟨q,p,rfl,hL⟩|⟨p,e,rfl,he⟩
 . exact⟨_,rfl,.inl ⟨rfl,hL⟩⟩
 . exact⟨_,rfl,.inr ⟨he,rfl⟩⟩
theorem lz{t:Y8}{l:List Y8}:((qQ (t::l):Int)==0)=false:=beq_eq_false_iff_ne.2 (by simp only[qY];omega)
theorem Y6k(t:Y8)(l:List Y8)(e:Pos)(d:Int):F7 ⟨t::l,e,d⟩=some t.Pos:=by
 unfold F7;rw[c0 lz]
 rfl
theorem Y4b{t:Y8}{l:List Y8}{e:Pos}{d:Int}(h:t.Kind=4):F6 ⟨t::l,e,d⟩=some t.Text:=by
 unfold F6;rw[c0 lz];refine bnd (x:=t) rfl ?_;rw[c0 (by rw[h];rfl)]
 rfl
theorem Y5b{t:Y8}{l:List Y8}{e:Pos}{d:Int}(h:t.Kind≠4):F6 ⟨t::l,e,d⟩=some []:=by
 unfold F6;rw[c0 lz];refine bnd (x:=t) rfl ?_;rw[c1 (by simpa using h)]
theorem X4r{t:Y8}{l:List Y8}{e:Pos}{d:Int}{m:Aa}(h:t.Text=m)(hk:t.Kind=2\/t.Kind=4):X8 ⟨t::l,e,d⟩ m=some true:=by
 unfold X8 P1;rw[c1 (dt (by simp only[qY];omega))];refine bnd (x:=true) (bnd (x:=t) rfl ?_) rfl;rw[c1 (dt h)];refine bnd (x:=t) rfl ?_
 rcases hk with hk|hk
 . rw[c1 (by rw[hk];rfl)]
 . rw[c0 (by rw[hk];rfl)];refine bnd (x:=t) rfl ?_;rw[hk];rfl
theorem is_miss{t:Y8}{l:List Y8}{e:Pos}{d:Int}{m:Aa}(h:t.Text≠m):X8 ⟨t::l,e,d⟩ m=some false:=by
 unfold X8 P1;rw[c1 (dt (by simp only[qY];omega))];refine bnd (x:=false) (bnd (x:=t) rfl ?_) rfl;rw[c0 (df h)]
theorem Z3i{α:Type}(t:α)(l:List α):sub (t::l) 1 (qQ (t::l):Int)=some l:=by
 unfold sub;rw[if_pos (by simp only[qY];omega)]
 simp
theorem X2e{t:Y8}{l:List Y8}{e:Pos}{d:Int}{m:Aa}(h:t.Text=m)(hk:t.Kind=2\/t.Kind=4):Y6 ⟨t::l,e,d⟩ m=some (true,⟨l,e,d⟩):=by
 unfold Y6;refine bnd (X4r h hk) ?_;refine(c0 (by rfl)).trans ?_;exact bnd (Z3i t l) rfl
theorem Y7t{t:Y8}{l:List Y8}{e:Pos}{d k:Int}(h:t.Kind=k):B4 ⟨t::l,e,d⟩ k=some (.ok (t,⟨l,e,d⟩)):=by
 unfold B4 jn
 dsimp only
 rw[c0 lz];refine bnd (x:=t) rfl ?_;rw[c0 (by rw[h];exact bne_self_eq_false k)];refine bnd (x:=t) rfl ?_;exact bnd (Z3i t l) rfl
theorem X7d{l:List Y8}{e:Pos}{d:Int}(h0:0<=d)(h:d<200):D5 ⟨l,e,d⟩=some (.ok ⟨l,e,d+1⟩):=by
 unfold D5 jn
 dsimp only
 rw[c0 (beq_eq_false_iff_ne.2 (by omega)),w64 (by omega)]
def ps(b:UInt8)(c:Nat):Nat->List Y8
 |0=>[]
 |a+1=>⟨4,[b],0,⟨1,(c:Int)⟩⟩::ps b (c+1) a
def wE:Z5->Nat
 |⟨a,b,c,d,e,f,ks⟩=>1+f.Stars.toNat+(ks.attach.map fun k=>wE k.1).sum
termination_by x=>SizeOf.sizeOf x
decreasing_by
 have:=List.sizeOf_lt_of_mem k.2
 simp only[Z5.mk.sizeOf_spec]
 omega
def sm{α:Type}(w:α->Nat)(l:List α):Nat:=(l.map w).sum
theorem Y6u(x:Z5):wE x=1+x.Type_.Stars.toNat+sm wE x.Kids:=by
 obtain⟨a,b,c,d,e,f,ks⟩:=x;rw[wE]
 simp[sm]
def wV(v:J2):Nat:=1+v.Type_.Stars.toNat+v.Dims.length+sm wE v.Init
def wS:V8->Nat
 |⟨a,b,c,d,e,f,bs,es,cs⟩=>1+sm wE c+sm wE d+sm wE e+sm wV f+(bs.attach.map fun k=>wS k.1).sum+(es.attach.map fun k=>wS k.1).sum+(cs.attach.map fun c=>1+(c.1.Body.attach.map fun k=>wS k.1).sum).sum
termination_by x=>SizeOf.sizeOf x
decreasing_by
 . have:=List.sizeOf_lt_of_mem k.2
   simp only[V8.mk.sizeOf_spec]
   omega
 . have:=List.sizeOf_lt_of_mem k.2
   simp only[V8.mk.sizeOf_spec]
   omega
 . have h1:=List.sizeOf_lt_of_mem k.2
   have h2:=List.sizeOf_lt_of_mem c.2
   obtain⟨⟨c1,c2,c3,c4⟩,hc⟩:=c
   simp only[X4z.mk.sizeOf_spec]at h2
   simp only[V8.mk.sizeOf_spec]
   dsimp only at h1
   omega
def wC(c:R5):Nat:=1+sm wS c.Body
theorem Y2i(x:V8):wS x=1+sm wE x.A+sm wE x.B+sm wE x.C+sm wV x.Var+sm wS x.Body+sm wS x.Else+sm wC x.Cases:=by
 obtain⟨a,b,c,d,e,f,bs,es,cs⟩:=x;rw[wS]
 simp[sm]
 rfl
def wT(s:S8):Nat:=1+sm wV s.Fields
def wF(f:L6):Nat:=1+f.Ret.Stars.toNat+sm wV f.Params+sm wS f.Body
def wP(p:U3):Nat:=sm wT p.Structs+sm wV p.Globals+sm wF p.Funcs
theorem Q3q{α:Type}(w:α->Nat)(x:α)(l:List α):sm w (x::l)=w x+sm w l:=by simp[sm]
theorem Q2x{α:Type}(w:α->Nat)(a b:List α):sm w (a++b)=sm w a+sm w b:=by simp[sm]
theorem Q1u{α:Type}{w:α->Nat}(hw:∀x,1<=w x):∀l:List α,l.length<=sm w l
 |[]=>kX _
 |x::l=>by rw[Q3q,qY];have:=Q1u hw l;have:=hw x;omega
theorem Q3k(x:Z5):1<=wE x:=by rw[Y6u];omega
theorem Z4q(x:J2):1<=wV x:=by unfold wV;omega
theorem Z5z(x:V8):1<=wS x:=by rw[Y2i];omega
theorem X3u(x:R5):1<=wC x:=by unfold wC;omega
theorem X0c(x:S8):1<=wT x:=by unfold wT;omega
theorem X0d(x:L6):1<=wF x:=by unfold wF;omega
def OkT(t:K6):Prop:=t.Word.length<=70000/\t.Name.length<=70000/\t.Stars<=1000000
def Z3u(k:Int):Nat:=if k=3\/k=9\/k=10\/k=11 then 1 else if k=4\/k=5\/k=8 then 2 else if k=6 then 3 else 0
def Ex(k:Int)(p:Pos)(o n:Aa)(m:Nat):Prop:=Pn p/\(k=7->n=Y6b->1<=m)/\(k=5->o≠[])
theorem Ex.of{k:Int}{p:Pos}{o n:Aa}{m:Nat}(hp:Pn p)(h7:k≠7)(h5:k≠5):Ex k p o n m:=⟨hp,fun h=>absurd h h7,fun h=>absurd h h5⟩
def Sa(k:Int)(a v:Nat):Prop:=((k=1\/k=3\/k=4\/k=5\/k=7)->1<=a)/\(k=2->1<=v)
inductive OkE:Z5->Prop
 |mk {x:Z5} (kids:∀k∈x.Kids,OkE k) (name:x.Name.length<=70000) (op:x.Op.length<=70000) (ty:OkT x.Type_) (ar:Z3u x.Kind<=x.Kids.length) (ex:Ex x.Kind x.Pos x.Op x.Name x.Kids.length) (nu:U32 x.Num):OkE x
structure OkV(v:J2):Prop where
 name:v.Name.length<=70000
 ty:OkT v.Type_
 init:∀x∈v.Init,OkE x
 pos:Pn v.Pos
 br:v.Brace=false->v.Init.length<=1
inductive OkS:V8->Prop
 |mk {x:V8} (a:∀y∈x.A,OkE y) (b:∀y∈x.B,OkE y) (c:∀y∈x.C,OkE y) (v:∀y∈x.Var,OkV y) (s:∀y∈x.Body,OkS y) (e:∀y∈x.Else,OkS y) (d:∀c∈x.Cases,∀y∈c.Body,OkS y) (sp:Pn x.Pos) (sa:Sa x.Kind x.A.length x.Var.length) (cp:∀c∈x.Cases,Pn c.Pos):OkS x
structure OkF(f:L6):Prop where
 name:f.Name.length<=70000
 ty:OkT f.Ret
 ps:∀v∈f.Params,OkV v
 body:∀x∈f.Body,OkS x
 pos:Pn f.Pos
structure OkP(p:U3):Prop where
 s:∀s∈p.Structs,s.Name.length<=70000/\(∀v∈s.Fields,OkV v)/\Pn s.Pos
 g:∀v∈p.Globals,OkV v
 f:∀f∈p.Funcs,OkF f
structure Af(r r':Z0)(k:Nat):Prop where
 len:r'.l.length+k<=r.l.length
 tk:∀t∈r'.l,t∈r.l
 d:r'.depth=r.depth
 en:r'.end_=r.end_
theorem Af.refl(r:Z0):Af r r 0:=⟨qD _,fun _ h=>h,rfl,rfl⟩
theorem Af.trans{a b c:Z0}{j k:Nat}(h:Af a b j)(g:Af b c k):Af a c (j+k):=⟨by have:=h.len;have:=g.len;omega,fun t ht=>h.tk t (g.tk t ht),g.d.trans h.d,g.en.trans h.en⟩
theorem Af.mono{a b:Z0}{j k:Nat}(h:Af a b j)(hk:k<=j):Af a b k:=⟨by have:=h.len;omega,h.tk,h.d,h.en⟩
structure Rd(r:Z0):Prop where
 tx:∀t∈r.l,t.Text.length<=70000
 len:r.l.length<=70000
 d:0<=r.depth/\r.depth<=200
 tp:∀t∈r.l,Pn t.Pos
 te:Pn r.end_
 tn:∀t∈r.l,t.Kind=1->t.Text≠Y6b
 tu:∀t∈r.l,U32 t.Num
theorem Rd.after{r r':Z0}{k:Nat}(h:Rd r)(g:Af r r' k):Rd r':=⟨fun t ht=>h.tx t (g.tk t ht),by have:=g.len;have:=h.len;omega,by rw[g.d];exact h.d,fun t ht=>h.tp t (g.tk t ht),by rw[g.en];exact h.te,fun t ht=>h.tn t (g.tk t ht),fun t ht=>h.tu t (g.tk t ht)⟩
def Ok{E A:Type}(y:Option (Except E A))(p:A->Prop):Prop:=∃z,y=some z/\match z with
 | .error _=>True
 | .ok x=>p x
theorem Ok.ok{E A:Type}{x:A}{p:A->Prop}(h:p x):Ok (some (qX (ε:=E) x)) p:=⟨_,rfl,h⟩
theorem Ok.err{E A:Type}{e:E}{p:A->Prop}:Ok (some (qK (α:=A) e)) p:=⟨_,rfl,trivial⟩
theorem Ok.mono{E A:Type}{y:Option (Except E A)}{p q:A->Prop}(h:Ok y p)(hpq:∀x,p x->q x):Ok y q:=by
 obtain⟨z,e,hz⟩:=h;refine⟨z,e,?_⟩;cases z with
 |error _=>trivial
 |ok x=>exact hpq x hz
theorem Ok.bind{E E' A B:Type}{y:Option (Except E A)}{p:A->Prop}{f:A->Option (Except E' B)}{g:E->E'}{q:B->Prop}(h:Ok y p)(hf:∀x,p x->Ok (f x) q):Ok (y.bind fun z=>exC z (fun z=>f z) (fun e=>some (qK (g e)))) q:=by
 obtain⟨z,e,hz⟩:=h;rw[e,qV];cases z with
 |error e=>exact⟨_,rfl,trivial⟩
 |ok x=>exact hf x hz
theorem Ok.step{E A B:Type}{m:Option B}{x:B}{f:B->Option (Except E A)}{q:A->Prop}(h:m=some x)(k:Ok (f x) q):Ok (m.bind f) q:=by subst h;exact k
theorem Z0d(r:Z0)(m:Aa):∃b,X8 r m=some b/\(b=true->∃t l,r.l=t::l/\t.Text=m/\(t.Kind=2\/t.Kind=4)):=by
 obtain⟨l,e,d⟩:=r;cases l with
 |nil=>exact⟨false,rfl,fun h=>by cases h⟩
 |cons t l=>
  by_cases h:t.Text=m
  . by_cases hk:t.Kind=2\/t.Kind=4
    . exact⟨true,X4r h hk,fun _=>⟨t,l,rfl,h,hk⟩⟩
    . refine⟨false,?_,fun h=>by cases h⟩;unfold X8 P1;rw[c1 (dt (by simp only[qY];omega))];refine bnd (x:=false) (bnd (x:=t) rfl ?_) rfl;rw[c1 (dt h)];refine bnd (x:=t) rfl ?_;rw[c0 (by simp;exact fun h=>hk (.inl h))];refine bnd (x:=t) rfl ?_
      congr 1
      simp
      exact fun h=>hk (.inr h)
  . exact⟨false,is_miss h,fun h=>by cases h⟩
theorem M8(r:Z0)(m:Aa):∃b r',Y6 r m=some (b,r')/\Af r r' (cond b 1 0):=by
 obtain⟨b,e,hb⟩:=Z0d r m;cases b with
 |true=>
  obtain⟨t,l,hl,ht,hk⟩:=hb rfl;obtain⟨rl,re,rd⟩:=r
  dsimp only at hl
  subst hl;exact⟨true,_,X2e ht hk,by simp,fun x hx=>List.mem_cons_of_mem _ hx,rfl,rfl⟩
 |false=>
  refine⟨false,r,?_,Af.refl r⟩;unfold Y6;exact bnd e rfl
theorem X5r(r:Z0):∃p,F7 r=some p:=by
 obtain⟨l,e,d⟩:=r;cases l with
 |nil=>exact⟨e,rfl⟩
 |cons t l=>exact⟨_,Y6k t l e d⟩
theorem Y0o{r:Z0}(hr:Rd r):∃p,F7 r=some p/\Pn p:=by
 obtain⟨l,e,d⟩:=r;cases l with
 |nil=>exact⟨e,rfl,hr.te⟩
 |cons t l=>exact⟨_,Y6k t l e d,hr.tp t (by simp)⟩
theorem Z5f(r:Z0)(k:Int):∃e,Q0m r k=some (.error e):=by
 obtain⟨p,hp⟩:=X5r r;exact⟨_,bnd hp rfl⟩
theorem N2(r:Z0)(m:Aa):Ok (Y7 r m) (fun r'=>Af r r' 1):=by
 obtain⟨b,r',e,h⟩:=M8 r m;unfold Y7;refine Ok.step e ?_;cases b with
 |true=>exact Ok.ok h
 |false=>
  obtain⟨x,hx⟩:=Z5f r' 3;exact Ok.step hx Ok.err
theorem Y4g(r:Z0)(k:Int):Ok (B4 r k) (fun x=>(x.1∈r.l/\x.1.Kind=k)/\Af r x.2 1):=by
 obtain⟨l,e,d⟩:=r;cases l with
 |nil=>
  unfold B4 jn
  dsimp only
  obtain⟨x,hx⟩:=Z5f ⟨[],e,d⟩ 3;rw[c1 (show((qQ ([]:List Y8):Int)==0)=true from rfl)];exact Ok.step hx Ok.err
 |cons t l=>
  by_cases h:t.Kind=k
  . rw[Y7t h];exact Ok.ok ⟨⟨by simp,h⟩,by simp,fun x hx=>List.mem_cons_of_mem _ hx,rfl,rfl⟩
  . unfold B4 jn
    dsimp only
    rw[c0 lz];refine Ok.step (x:=t) rfl ?_;rw[c1 (by simpa using h)];obtain⟨x,hx⟩:=Z5f ⟨t::l,e,d⟩ 3;exact Ok.step hx Ok.err
theorem Z3k{r:Z0}(hr:Rd r):Ok (U7 r) (fun x=>x.1.length<=70000/\Af r x.2 1/\x.1≠Y6b):=by
 unfold U7;exact(Y4g r 1).bind fun x hx=>Ok.ok ⟨hr.tx _ hx.1.1,hx.2,hr.tn _ hx.1.1 hx.1.2⟩
theorem Z8f{r:Z0}(hr:Rd r):Ok (D5 r) (fun r'=>r'.l=r.l/\r'.depth=r.depth+1/\r.depth<200/\r'.end_=r.end_):=by
 obtain⟨l,e,d⟩:=r;have hd:=hr.d
 dsimp only at hd
 by_cases h:d=200
 . subst h;unfold D5 jn
   dsimp only
   rw[c1 (show((200:Int)==200)=true from rfl)];obtain⟨x,hx⟩:=Z5f ⟨l,e,200⟩ 2;exact Ok.step hx Ok.err
 . rw[X7d hd.1 (by omega)];exact Ok.ok ⟨rfl,rfl,by dsimp only;omega,rfl⟩
theorem Z6t{r:Z0}(hr:Rd r):∃m,F6 r=some m/\m.length<=70000/\(m≠[]->r.l≠[]):=by
 obtain⟨l,e,d⟩:=r;cases l with
 |nil=>exact⟨[],rfl,by simp,fun h=>absurd rfl h⟩
 |cons t l=>
  by_cases h:t.Kind=4
  . exact⟨_,Y4b h,hr.tx t (by simp),fun _=>by simp⟩
  . exact⟨_,Y5b h,by simp,fun _=>by simp⟩
theorem Q7s{r:Z0}(hr:Rd r)(k:Int)(hl:r.l≠[]):∃p o r',V4 r k=some (⟨k,p,o,[],0,⟨[],[],0⟩,[]⟩,r')/\o.length<=70000/\Af r r' 1/\Pn p/\F6 r=some o:=by
 obtain⟨l,e,d⟩:=r;cases l with
 |nil=>exact absurd rfl hl
 |cons t l=>
  obtain⟨m,hm,hml,_⟩:=Z6t hr;refine⟨t.Pos,m,⟨l,e,d⟩,?_,hml,⟨by simp,fun x hx=>List.mem_cons_of_mem _ hx,rfl,rfl⟩,hr.tp t (by simp),hm⟩;unfold V4;exact bnd (Y6k t l e d) (bnd hm (bnd (Z3i t l) rfl))
def Rn{Z:Type}(y:Option Z)(P:Z->Prop):Prop:=∃z,y=some z/\P z
theorem Rn.ok{Z:Type}{z:Z}{P:Z->Prop}(h:P z):Rn (some z) P:=⟨z,rfl,h⟩
theorem Rn.step{Z B:Type}{m:Option B}{x:B}{f:B->Option Z}{P:Z->Prop}(h:m=some x)(k:Rn (f x) P):Rn (m.bind f) P:=by subst h;exact k
theorem Rn.bind{E A S R:Type}{y:Option (Except E A)}{p:A->Prop}{f:A->Option (Lp S R)}{g:E->R}{P:Lp S R->Prop}(h:Ok y p)(hf:∀x,p x->Rn (f x) P)(hg:∀e,P (.ret (g e))):Rn (y.bind fun z=>exC z (fun z=>f z) (fun e=>some (Lp.ret (g e)))) P:=by
 obtain⟨z,ez,hz⟩:=h;rw[ez,qV];cases z with
 |error x=>exact⟨_,rfl,hg x⟩
 |ok x=>exact hf x hz
def NxR{S R E A:Type}(I:S->Prop)(μ:S->Nat)(s:S)(f:Lp S R->Option (Except E A))(q:A->Prop):Lp S R->Prop
 | .go s'=>I s'/\μ s'<μ s
 | .brk s'=>Ok (f (.brk s')) q
 | .ret r=>Ok (f (.ret r)) q
theorem Ok.loop{S R E A:Type}{body:S->Option (Lp S R)}{f:Lp S R->Option (Except E A)}{q:A->Prop}{s:S}(I:S->Prop)(μ:S->Nat)(hI:I s)(hn:μ s<1000000)(hs:∀s,I s->Rn (body s) (NxR I μ s f q)):Ok ((loopM body NN s).bind f) q:=by
 obtain⟨o,ho,hp⟩:=Q4b I μ (fun o=>Ok (f o) q) hI (Z1i (by omega)) (fun s h=>by
  obtain⟨z,e,hz⟩:=hs s h;exact⟨z,e,by cases z<;>exact hz⟩)
 exact Ok.step ho hp
theorem Y8z(r:Z0):∃b,P0 r=some b/\(b=true->r.l≠[]):=by
 have ne:∀{m:Aa}{b:Bool},(b=true->∃t l,r.l=t::l/\t.Text=m/\(t.Kind=2\/t.Kind=4))->b=true->r.l≠[]:=by
  intro m b h hb;obtain⟨t,l,e,_⟩:=h hb;rw[e];simp
 unfold P0;obtain⟨b1,e1,h1⟩:=Z0d r [105,110,116];rw[e1,qV];cases b1 with
 |true=>exact⟨true,rfl,ne h1⟩
 |false=>
  obtain⟨b2,e2,h2⟩:=Z0d r [99,104,97,114];refine(c0 (by rfl)).symm▸?_;rw[e2,qV];cases b2 with
  |true=>exact⟨true,rfl,ne h2⟩
  |false=>
   obtain⟨b3,e3,h3⟩:=Z0d r [118,111,105,100];refine(c0 (by rfl)).symm▸?_;rw[e3,qV];cases b3 with
   |true=>exact⟨true,rfl,ne h3⟩
   |false=>
    obtain⟨b4,e4,h4⟩:=Z0d r [115,116,114,117,99,116];exact⟨b4,bnd e4 rfl,ne h4⟩
theorem Z1r{r:Z0}(hr:Rd r):Ok (U6 r) (fun x=>OkT x.1/\Af r x.2 (1+x.1.Stars.toNat)):=by
 obtain⟨l,e,d⟩:=r;unfold U6
 dsimp only[jn]
 obtain⟨b,eb,hb⟩:=Y8z ⟨l,e,d⟩;rw[eb,qV];cases b with
 |false=>
  obtain⟨x,hx⟩:=Z5f ⟨l,e,d⟩ 3;exact Ok.step hx Ok.err
 |true=>
  cases l with
  |nil=>exact absurd rfl (hb rfl)
  |cons t l=>
   have hl:=hr.len
   simp only[qY]at hl
   have ht:=hr.tx t (by simp);have h1:Af ⟨t::l,e,d⟩ ⟨l,e,d⟩ 1:=⟨by simp,fun x hx=>List.mem_cons_of_mem _ hx,rfl,rfl⟩
   have key:∀(x1:K6)(x2:Z0),x1.Word.length<=70000->x1.Name.length<=70000->x1.Stars=0->Af ⟨t::l,e,d⟩ x2 1->
    Ok ((loopM (fun(x3,x4)=>((Y6 x4 ([42]:Aa)).bind fun y4=>bif y4.1 then(some (Lp.go ({x3 with Stars:=qJ .i64 (x3.Stars+1)},y4.2)))else(some (Lp.brk (x3,y4.2))):Option (Lp (K6×Z0) (Unit)))) NN (x1,x2)).bind fun o=>o.thn (fun(x3,x4)=>some (qX (ε:=Z7×Z0) (x3,x4))) (fun _=>none)) (fun x=>OkT x.1/\Af ⟨t::l,e,d⟩ x.2 (1+x.1.Stars.toNat)):=by
    intro x1 x2 hw hn hs ha;refine Ok.loop (fun s=>s.1.Word.length<=70000/\s.1.Name.length<=70000/\0<=s.1.Stars/\Af ⟨t::l,e,d⟩ s.2 (1+s.1.Stars.toNat)) (fun s=>s.2.l.length) ⟨hw,hn,by dsimp only;omega,by dsimp only;rw[hs];exact ha⟩ (by have:=ha.len;simp only[qY]at this;dsimp only;omega) ?_;rintro⟨x3,x4⟩ ⟨i1,i2,i3,i4⟩
    dsimp only at i1 i2 i3 i4⊢
    have i4l:=i4.len
    simp only[qY]at i4l
    obtain⟨b,r',eb,hb⟩:=M8 x4 [42];refine Rn.step eb ?_;cases b with
    |true=>
     have hbl:=hb.len
     dsimp only[Ak]at hbl
     refine Rn.ok ⟨⟨i1,i2,?_,?_⟩,by dsimp only;omega⟩
     . dsimp only
       rw[w64 (by omega)];omega
     . dsimp only
       rw[w64 (by omega)];refine(i4.trans hb).mono ?_
       dsimp only[Ak]
       omega
    |false=>
     refine Rn.ok (Ok.ok ⟨⟨i1,i2,by dsimp only;omega⟩,(i4.trans hb).mono (by dsimp only;omega)⟩)
   refine(c0 (by rfl)).symm▸?_;refine Ok.step (x:=t) rfl ?_;refine Ok.step (Z3i t l) ?_
   by_cases hst:t.Text=[115,116,114,117,99,116]
   . rw[c1 (dt hst)];refine(Z3k (hr.after h1)).bind fun x hx=>key _ _ ht hx.1 rfl ((h1.trans hx.2.1).mono (by omega))
   . rw[c0 (df hst)];exact key _ _ ht (by simp) rfl h1
theorem X2z{r:Z0}(hr:Rd r):Ok (W0 r) (fun x=>Af r x.2 x.1.length):=by
 unfold W0;refine Ok.loop (fun s=>Af r s.2 s.1.length) (fun s=>s.2.l.length) ((Af.refl r).mono (by simp)) (by have:=hr.len;dsimp only;omega) ?_;rintro⟨x1,x2⟩ h
 dsimp only at h⊢
 have hl:=hr.len;have h2:=h.len;obtain⟨b,r1,eb,hb⟩:=M8 x2 [91];refine Rn.step eb ?_;cases b with
 |false=>exact Rn.ok (Ok.ok ((h.trans hb).mono (by dsimp only;omega)))
 |true=>
  dsimp only[Ak]at hb⊢
  refine Rn.bind (Y4g r1 3) (fun x hx=>?_) (fun e=>Ok.err);refine Rn.step (M9 (by simp;omega)) ?_;refine Rn.bind (N2 x.2 [93]) (fun y hy=>?_) (fun e=>Ok.err);have ha:=((h.trans hb).trans hx.2).trans hy;have:=hb.len;have:=hx.2.len;have:=hy.len;refine Rn.ok ⟨ha.mono (by simp),by dsimp only;omega⟩
def PE(r:Z0)(x:Z5×Z0):Prop:=OkE x.1/\Af r x.2 (wE x.1)
def PL(r:Z0)(k:Nat)(x:List Z5×Z0):Prop:=(∀y∈x.1,OkE y)/\Af r x.2 (sm wE x.1+k)
def PL1(r:Z0)(k:Nat)(x:List Z5×Z0):Prop:=PL r k x/\1<=x.1.length
structure S1(n:Nat):Prop where
 bracketed:∀r,Rd r->10*r.l.length+1<=n->Ok ((M1 n).U1 r) (PL1 r 2)
 handed:∀r,Rd r->10*r.l.length+1<=n->Ok ((M1 n).F0 r) (PL r 2)
 prime:∀r,Rd r->10*r.l.length+1<=n->Ok ((M1 n).J7 r) (PE r)
 post:∀r,Rd r->10*r.l.length+2<=n->Ok ((M1 n).C2 r) (PE r)
 unary:∀r,Rd r->10*r.l.length+3<=n->Ok ((M1 n).X9 r) (PE r)
 binary:∀r k,Rd r->10*r.l.length+4<=n->Ok ((M1 n).J4 r k) (PE r)
 cond:∀r,Rd r->10*r.l.length+5<=n->Ok ((M1 n).D8 r) (PE r)
 assign:∀r,Rd r->10*r.l.length+6<=n->Ok ((M1 n).X3 r) (PE r)
theorem Rd.down{r r':Z0}(hr:Rd r)(h:r'.l=r.l/\r'.depth=r.depth+1/\r.depth<200/\r'.end_=r.end_):Rd r':=⟨by rw[h.1];exact hr.tx,by rw[h.1];exact hr.len,by have:=hr.d;omega,by rw[h.1];exact hr.tp,by rw[h.2.2.2];exact hr.te,by rw[h.1];exact hr.tn,by rw[h.1];exact hr.tu⟩
theorem Af.up{r r' s:Z0}{k:Nat}(hr:Rd r)(h:r'.l=r.l/\r'.depth=r.depth+1/\r.depth<200/\r'.end_=r.end_)(g:Af r' s k):Af r {s with depth:=qJ .i64 (s.depth-1)} k:=by
 have hd:=hr.d;have gd:=g.d;refine⟨by have:=g.len;rw[h.1]at this;exact this,fun t ht=>by have:=g.tk t ht;rw[h.1]at this;exact this,?_,g.en.trans h.2.2.2⟩
 dsimp only
 rw[w64 (by omega)];omega
theorem okT0:OkT ⟨[],[],0⟩:=⟨by simp,by simp,by decide⟩
theorem Y6d{k m:Int}{p:Pos}{o n:Aa}{ks:List Z5}(hk:∀y∈ks,OkE y)(ho:o.length<=70000)(hn:n.length<=70000)(ha:Z3u k<=ks.length)(hx:Ex k p o n ks.length)(hm:U32 m:=by exact Z6n):OkE ⟨k,p,o,n,m,⟨[],[],0⟩,ks⟩:= .mk hk hn ho okT0 ha hx hm
theorem wEk{k m:Int}{p:Pos}{o n:Aa}{ks:List Z5}:wE ⟨k,p,o,n,m,⟨[],[],0⟩,ks⟩=1+sm wE ks:=by rw[Y6u];rfl
theorem sm1(x:Z5):sm wE [x]=wE x:=by simp[sm]
theorem sm2(x y:Z5):sm wE [x,y]=wE x+wE y:=by simp[sm]
theorem sm3(x y z:Z5):sm wE [x,y,z]=wE x+wE y+wE z:=by simp[sm];omega
theorem X3m{n:Nat}(h:S1 n):∀r,Rd r->10*r.l.length+1<=n+1->Ok ((M1 (n+1)).U1 r) (PL1 r 2):=by
 intro r hr hn;show Ok (P2 (M1 n) r) _;unfold P2;refine(N2 r _).bind fun y1 a1=>?_;have:=a1.len;refine(h.assign y1 (hr.after a1) (by omega)).bind fun y2 a2=>?_;refine(N2 y2.2 _).bind fun y3 a3=>?_;exact Ok.ok ⟨⟨by simpa using a2.1,((a1.trans a2.2).trans a3).mono (by dsimp only;rw[sm1];omega)⟩,qD 1⟩
theorem handed_s{n:Nat}(h:S1 n):∀r,Rd r->10*r.l.length+1<=n+1->Ok ((M1 (n+1)).F0 r) (PL r 2):=by
 intro r hr hn;show Ok (C6 (M1 n) r) _;unfold C6;refine(N2 r _).bind fun y1 a1=>?_;have l1:=a1.len;have lr:=hr.len;obtain⟨b,y2,e2,a2⟩:=M8 y1 [41];refine Ok.step e2 ?_;cases b with
 |true=>exact Ok.ok ⟨by simp,(a1.trans a2).mono (by simp[sm])⟩
 |false=>
  have a12:=(a1.trans a2).mono (k:=1) (by simp);have l2:=a12.len;refine(h.assign y2 (hr.after a12) (by omega)).bind fun y3 a3=>?_;have a13:=a12.trans a3.2;refine Ok.loop (fun s=>(∀y∈s.1,OkE y)/\Af r s.2 (1+sm wE s.1)) (fun s=>s.2.l.length) ⟨by simpa using a3.1,by dsimp only;rw[sm1];exact a13⟩ (by have:=a13.len;dsimp only;omega) ?_;rintro⟨x1,x2⟩ ⟨i1,i2⟩
  dsimp only at i1 i2⊢
  have li:=i2.len;have hx:=Q1u Q3k x1;obtain⟨b,y4,e4,a4⟩:=M8 x2 [44];refine Rn.step e4 ?_;cases b with
  |false=>
   refine Rn.ok ?_;refine(N2 y4 _).bind fun y6 a6=>Ok.ok ⟨i1,((i2.trans a4).trans a6).mono (by simp;omega)⟩
  |true=>
   have a24:=i2.trans a4;have l4:=a4.len
   dsimp only[Ak]at l4 a24
   refine Rn.bind (h.assign y4 (hr.after a24) (by omega)) (fun y5 a5=>?_) (fun e=>Ok.err);refine Rn.step (M9 (by simp;omega)) ?_;have l5:=a5.2.len;refine Rn.ok ⟨⟨?_,(a24.trans a5.2).mono (by dsimp only;rw[Q2x,sm1];omega)⟩,by dsimp only;omega⟩;intro y hy
   rcases jQ.1 hy with hy|hy
   . exact i1 y hy
   . have:y=y5.1:=by simpa using hy
     rw[this];exact a5.1
theorem assign_s{n:Nat}(h:S1 n):∀r,Rd r->10*r.l.length+6<=n+1->Ok ((M1 (n+1)).X3 r) (PE r):=by
 intro r hr hn;show Ok (B9 (M1 n) r) _;unfold B9;refine(Z8f hr).bind fun y1 d1=>?_;have hr1:=hr.down d1;refine Ok.bind (g:=fun e:Z7×Z0=>(e.1,{e.2 with depth:=qJ .i64 (e.2.depth-1)})) (h.cond y1 hr1 (by rw[d1.1];omega)) fun y2 a2=>?_;have hr2:=hr1.after a2.2;obtain⟨m,em,hm,hne⟩:=Z6t hr2;refine Ok.step em ?_
 obtain⟨b,eb,hb⟩:∃b,Q0q m=some b/\(b=true->m≠[]):=by
  by_cases h0:m=[]
  . subst h0;exact⟨false,rfl,fun h=>by cases h⟩
  . have:∃b,Q0q m=some b:=by
     unfold Q0q
     dsimp only[jn]
     have key:∀b:Bool,∃c,(bif b then some true else some false)=some c:=fun b=>by cases b<;>exact⟨_,rfl⟩
     iterate 10 (first|exact key _|(refine(Bool.rec (motive:=fun c=>∃d,(bif c then _ else _)=some d) ?_ ?_ _)<;>dsimp only[Ak,Aj]))
     all_goals exact key _
    obtain⟨b,hb⟩:=this;exact⟨b,hb,fun _=>h0⟩
 refine Ok.step eb ?_;cases b with
 |false=>exact Ok.ok ⟨a2.1,Af.up hr d1 a2.2⟩
 |true=>
  obtain⟨p,o,y5,e5,ho,a5,pp,pm⟩:=Q7s hr2 5 (hne (hb rfl));refine Ok.step e5 ?_;have l2:=a2.2.len;have l5:=a5.len;rw[d1.1]at l2;refine Ok.bind (g:=fun e:Z7×Z0=>(e.1,{e.2 with depth:=qJ .i64 (e.2.depth-1)})) (h.assign y5 (hr2.after a5) (by omega)) fun y6 a6=>?_;refine Ok.ok ⟨Y6d (by simp[a2.1,a6.1]) ho (by simp) (show Z3u 5<=2 by decide) (show Ex 5 p o [] 2 from⟨pp,fun e=>absurd e (by decide),fun _ e0=>(hb rfl) (Option.some.inj (em.symm.trans (pm.trans (by rw[e0]))))⟩),?_⟩;have:=Af.up hr d1 ((a2.2.trans a5).trans a6.2);refine this.mono ?_
  dsimp only
  rw[wEk,sm2];omega
theorem rank_any(m:Aa):∃k,Q2g m=some k/\(k≠0->m≠[]):=by
 by_cases h:m=[]
 . subst h;exact⟨0,rfl,fun h=>absurd rfl h⟩
 . have:∃k,Q2g m=some k:=by
    unfold Q2g
    dsimp only[jn]
    cases decide (m=([124,124]:Aa))
    case true=>exact⟨_,rfl⟩
    cases decide (m=([38,38]:Aa))
    case true=>exact⟨_,rfl⟩
    cases decide (m=([124]:Aa))
    case true=>exact⟨_,rfl⟩
    cases decide (m=([94]:Aa))
    case true=>exact⟨_,rfl⟩
    cases decide (m=([38]:Aa))
    case true=>exact⟨_,rfl⟩
    cases decide (m=([61,61]:Aa))
    case true=>exact⟨_,rfl⟩
    cases decide (m=([33,61]:Aa))
    case true=>exact⟨_,rfl⟩
    cases decide (m=([60]:Aa))
    case true=>exact⟨_,rfl⟩
    cases decide (m=([62]:Aa))
    case true=>exact⟨_,rfl⟩
    cases decide (m=([60,61]:Aa))
    case true=>exact⟨_,rfl⟩
    cases decide (m=([62,61]:Aa))
    case true=>exact⟨_,rfl⟩
    cases decide (m=([60,60]:Aa))
    case true=>exact⟨_,rfl⟩
    cases decide (m=([62,62]:Aa))
    case true=>exact⟨_,rfl⟩
    cases decide (m=([43]:Aa))
    case true=>exact⟨_,rfl⟩
    cases decide (m=([45]:Aa))
    case true=>exact⟨_,rfl⟩
    cases decide (m=([42]:Aa))
    case true=>exact⟨_,rfl⟩
    cases decide (m=([47]:Aa))
    case true=>exact⟨_,rfl⟩
    cases decide (m=([37]:Aa))<;>exact⟨_,rfl⟩
   obtain⟨k,hk⟩:=this;exact⟨k,hk,fun _=>h⟩
theorem cond_s{n:Nat}(h:S1 n):∀r,Rd r->10*r.l.length+5<=n+1->Ok ((M1 (n+1)).D8 r) (PE r):=by
 intro r hr hn;show Ok (M2 (M1 n) r) _;unfold M2;refine(h.binary r 1 hr (by omega)).bind fun y1 a1=>?_;have hr1:=hr.after a1.2;obtain⟨m,em,hm,hne⟩:=Z6t hr1;refine Ok.step em ?_
 by_cases h63:m=[63]
 . rw[c0 (by rw[dt h63];rfl)];obtain⟨p,o,y3,e3,ho,a3,pp,pm⟩:=Q7s hr1 6 (hne (by rw[h63];simp));refine Ok.step e3 ?_;have l1:=a1.2.len;have l3:=a3.len;have a13:=a1.2.trans a3;refine(h.assign y3 (hr1.after a3) (by omega)).bind fun y4 a4=>?_;have a14:=a13.trans a4.2;refine(N2 y4.2 _).bind fun y5 a5=>?_;have a15:=a14.trans a5;have hr5:=hr.after a15;have l5:=a15.len;refine(Z8f hr5).bind fun y6 d6=>?_;have hr6:=hr5.down d6;refine(h.cond y6 hr6 (by rw[d6.1];omega)).bind fun y7 a7=>?_;have a57:=Af.up hr5 d6 a7.2;refine Ok.step (x:={y7.2 with depth:=qJ .i64 (y7.2.depth-1)}) rfl ?_;refine Ok.ok ⟨Y6d (by simp[a1.1,a4.1,a7.1]) (by simp) (by simp) (show Z3u 6<=3 by decide) (Ex.of (k:=6) pp (by decide) (by decide)),(a15.trans a57).mono ?_⟩
   dsimp only
   rw[wEk,sm3];omega
 . rw[c1 (by rw[df h63];rfl)];exact Ok.ok a1
theorem binary_s{n:Nat}(h:S1 n):∀r k,Rd r->10*r.l.length+4<=n+1->Ok ((M1 (n+1)).J4 r k) (PE r):=by
 intro r k hr hn;show Ok (D9 (M1 n) r k) _;unfold D9;have lr:=hr.len;refine(h.unary r hr (by omega)).bind fun y1 a1=>?_;refine Ok.loop (fun s=>PE r s) (fun s=>s.2.l.length) a1 (by have:=a1.2.len;dsimp only;omega) ?_;rintro⟨x1,x2⟩ hp;have li:=hp.2.len
 dsimp only at li
 have hr2:=hr.after hp.2;obtain⟨m,em,hm,hne⟩:=Z6t hr2;obtain⟨q,eq,hq⟩:=rank_any m
 dsimp only at em⊢
 refine Rn.step em ?_;refine Rn.step eq ?_
 by_cases h1:q<k
 . rw[c1 (dt h1)];exact Rn.ok (Ok.ok hp)
 rw[c0 (df h1)]
 by_cases h2:q=0
 . rw[c1 (by rw[h2];rfl)];exact Rn.ok (Ok.ok hp)
 rw[c0 (by simpa using h2)];obtain⟨p,o,y4,e4,ho,a4,pp,pm⟩:=Q7s hr2 4 (hne (hq h2));refine Rn.step e4 ?_;have a24:=hp.2.trans a4;have l4:=a4.len
 dsimp only at l4
 refine Rn.bind (h.binary y4 _ (hr.after a24) (by omega)) (fun y5 a5=>?_) (fun e=>Ok.err);have l5:=a5.2.len;refine Rn.ok ⟨⟨Y6d (by simp[hp.1,a5.1]) ho (by simp) (show Z3u 4<=2 by decide) (Ex.of (k:=4) pp (by decide) (by decide)),(a24.trans a5.2).mono ?_⟩,by dsimp only;omega⟩
 dsimp only
 rw[wEk,sm2];omega
theorem post_s{n:Nat}(h:S1 n):∀r,Rd r->10*r.l.length+2<=n+1->Ok ((M1 (n+1)).C2 r) (PE r):=by
 intro r hr hn;show Ok (D4 (M1 n) r) _;unfold D4;have lr:=hr.len;refine(h.prime r hr (by omega)).bind fun y1 a1=>?_;refine Ok.loop (fun s=>PE r s) (fun s=>s.2.l.length) a1 (by have:=a1.2.len;dsimp only;omega) ?_;rintro⟨x1,x2⟩ hp;have li:=hp.2.len
 dsimp only at li
 have hr2:=hr.after hp.2;have hx1:=Q3k x1;obtain⟨m,em,hm,hne⟩:=Z6t hr2
 dsimp only[jn]at em⊢
 refine Rn.step em ?_
 by_cases h1:m=[91]
 . rw[c1 (dt h1)];obtain⟨p,o,y3,e3,ho,a3,pp,pm⟩:=Q7s hr2 8 (hne (by rw[h1];simp));refine Rn.step e3 ?_;have a23:=hp.2.trans a3;have l3:=a3.len
   dsimp only at l3
   refine Rn.bind (h.assign y3 (hr.after a23) (by omega)) (fun y4 a4=>?_) (fun e=>Ok.err);refine Rn.bind (N2 y4.2 _) (fun y5 a5=>?_) (fun e=>Ok.err);have l4:=a4.2.len;have l5:=a5.len;refine Rn.ok ⟨⟨Y6d (by simp[hp.1,a4.1]) (by simp) (by simp) (show Z3u 8<=2 by decide) (Ex.of (k:=8) pp (by decide) (by decide)),((a23.trans a4.2).trans a5).mono ?_⟩,by dsimp only;omega⟩
   dsimp only
   rw[wEk,sm2];omega
 rw[c0 (df h1)]
 have dot:m≠[]->Rn ((V4 x2 9).bind fun y6=>(U7 y6.2).bind fun y7=>exL y7 (fun y7=>some (Lp.go (({y6.1 with Name:=y7.1,Kids:=([x1]:List Z5)}:Z5),y7.2)))) (NxR (fun s=>PE r s) (fun s=>s.2.l.length) (x1,x2) (fun o=>o.thn (fun(x1,x2)=>none) (fun r=>some r)) (PE r)):=by
  intro hm;obtain⟨p,o,y6,e6,ho,a6,pp,pm⟩:=Q7s hr2 9 (hne hm);refine Rn.step e6 ?_;have a26:=hp.2.trans a6;refine Rn.bind (Z3k (hr.after a26)) (fun y7 a7=>?_) (fun e=>Ok.err);have l6:=a6.len;have l7:=a7.2.1.len
  dsimp only at l6 l7
  refine Rn.ok ⟨⟨Y6d (by simp[hp.1]) ho a7.1 (show Z3u 9<=1 by decide) (Ex.of (k:=9) pp (by decide) (by decide)),(a26.trans a7.2.1).mono ?_⟩,by dsimp only;omega⟩
  dsimp only
  rw[wEk,sm1];omega
 have inc:m≠[]->Rn ((V4 x2 11).bind fun y8=>some (Lp.go (({y8.1 with Kids:=([x1]:List Z5)}:Z5),y8.2))) (NxR (R:=An (Z5×Z0)) (fun s=>PE r s) (fun s=>s.2.l.length) (x1,x2) (fun o=>o.thn (fun(x1,x2)=>none) (fun r=>some r)) (PE r)):=by
  intro hm;obtain⟨p,o,y8,e8,ho,a8,pp,pm⟩:=Q7s hr2 11 (hne hm);refine Rn.step e8 ?_;have l8:=a8.len
  dsimp only at l8
  refine Rn.ok ⟨⟨Y6d (by simp[hp.1]) ho (by simp) (show Z3u 11<=1 by decide) (Ex.of (k:=11) pp (by decide) (by decide)),(hp.2.trans a8).mono ?_⟩,by dsimp only;omega⟩
  dsimp only
  rw[wEk,sm1];omega
 by_cases h2:m=[46]
 . rw[c1 (dt h2),c1 (dt h2)];exact dot (by rw[h2];simp)
 rw[c0 (df h2)]
 by_cases h3:m=[45,62]
 . rw[c1 (dt h3)];exact dot (by rw[h3];simp)
 rw[c0 (df h3)]
 by_cases h4:m=[43,43]
 . rw[c1 (dt h4),c1 (dt h4)];exact inc (by rw[h4];simp)
 rw[c0 (df h4)]
 by_cases h5:m=[45,45]
 . rw[c1 (dt h5)];exact inc (by rw[h5];simp)
 rw[c0 (df h5)];exact Rn.ok (Ok.ok hp)
theorem unary_s{n:Nat}(h:S1 n):∀r,Rd r->10*r.l.length+3<=n+1->Ok ((M1 (n+1)).X9 r) (PE r):=by
 intro r hr hn;show Ok (G9 (M1 n) r) _;unfold G9;refine(Z8f hr).bind fun y1 d1=>?_;have hr1:=hr.down d1;obtain⟨m,em,hm,hne⟩:=Z6t hr1;refine Ok.step em ?_
 dsimp only[jn]
 have l1:y1.l.length=r.l.length:=by rw[d1.1]
 have op:∀k:Int,(Z3u k<=1/\k≠7/\k≠5)->m≠[]->Ok ((V4 y1 k).bind fun y3=>((M1 n).X9 y3.2).bind fun y4=>exC y4 (fun y4=>some (qX (ε:=Z7×Z0) (({y3.1 with Kids:=([y4.1]:List Z5)}:Z5),{y4.2 with depth:=qJ .i64 (y4.2.depth-1)}))) (fun e1=>some (qK (e1.1,{e1.2 with depth:=qJ .i64 (e1.2.depth-1)})))) (PE r):=by
  intro k hk hm;obtain⟨p,o,y3,e3,ho,a3,pp,pm⟩:=Q7s hr1 k (hne hm);refine Ok.step e3 ?_;have l3:=a3.len;refine Ok.bind (g:=fun e:Z7×Z0=>(e.1,{e.2 with depth:=qJ .i64 (e.2.depth-1)})) (h.unary y3 (hr1.after a3) (by omega)) fun y4 a4=>?_;refine Ok.ok ⟨Y6d (by simp[a4.1]) ho (by simp) hk.1 (Ex.of pp hk.2.1 hk.2.2),(Af.up hr d1 (a3.trans a4.2)).mono ?_⟩
  dsimp only
  rw[wEk,sm1];omega
 have rest:Ok ((F7 y1).bind fun y7=>(Y6 y1 ([115,105,122,101,111,102]:Aa)).bind fun y8=>bif y8.1 then((Y7 y8.2 ([40]:Aa)).bind fun y9=>exC y9 (fun y9=>(U6 y9).bind fun y10=>exC y10 (fun y10=>(Y7 y10.2 ([41]:Aa)).bind fun y11=>exC y11 (fun y11=>some (qX (ε:=Z7×Z0) ((⟨12,y7,([]:Aa),([]:Aa),0,y10.1,[]⟩:Z5),{y11 with depth:=qJ .i64 (y11.depth-1)}))) (fun e4=>some (qK (e4.1,{e4.2 with depth:=qJ .i64 (e4.2.depth-1)})))) (fun e3=>some (qK (e3.1,{e3.2 with depth:=qJ .i64 (e3.2.depth-1)})))) (fun e5=>some (qK (e5.1,{e5.2 with depth:=qJ .i64 (e5.2.depth-1)}))))else(((M1 n).C2 y8.2).bind fun y12=>exC y12 (fun y12=>some (qX (y12.1,{y12.2 with depth:=qJ .i64 (y12.2.depth-1)}))) (fun e6=>some (qK (e6.1,{e6.2 with depth:=qJ .i64 (e6.2.depth-1)}))))) (PE r):=by
  obtain⟨p,ep,pz⟩:=Y0o hr1;refine Ok.step ep ?_;obtain⟨b,y8,e8,a8⟩:=M8 y1 [115,105,122,101,111,102];refine Ok.step e8 ?_;have hr8:=hr1.after a8;have l8:=a8.len
  let g:Z7×Z0->Z7×Z0:=fun e=>(e.1,{e.2 with depth:=qJ .i64 (e.2.depth-1)})
  cases b with
  |true=>
   refine Ok.bind (g:=g) (N2 y8 _) fun y9 a9=>?_;refine Ok.bind (g:=g) (Z1r (hr8.after a9)) fun y10 a10=>?_;refine Ok.bind (g:=g) (N2 y10.2 _) fun y11 a11=>?_;refine Ok.ok ⟨.mk (by simp) (by simp) (by simp) a10.1 (show Z3u 12<=0 by decide) (Ex.of (k:=12) pz (by decide) (by decide)) Z6n,(Af.up hr d1 (((a8.trans a9).trans a10.2).trans a11)).mono ?_⟩;rw[Y6u]
   simp[sm]
   omega
  |false=>
   refine Ok.bind (g:=g) (h.post y8 hr8 (by omega)) fun y12 a12=>?_;exact Ok.ok ⟨a12.1,(Af.up hr d1 (a8.trans a12.2)).mono (by dsimp only;omega)⟩
 by_cases h1:m=[45]
 . rw[c1 (dt h1),c1 (dt h1)];exact op 3 (by decide) (by rw[h1];simp)
 rw[c0 (df h1)]
 by_cases h2:m=[126]
 . rw[c1 (dt h2),c1 (dt h2)];exact op 3 (by decide) (by rw[h2];simp)
 rw[c0 (df h2)]
 by_cases h3:m=[33]
 . rw[c1 (dt h3),c1 (dt h3)];exact op 3 (by decide) (by rw[h3];simp)
 rw[c0 (df h3)]
 by_cases h4:m=[42]
 . rw[c1 (dt h4),c1 (dt h4)];exact op 3 (by decide) (by rw[h4];simp)
 rw[c0 (df h4)]
 by_cases h5:m=[38]
 . rw[c1 (dt h5)];exact op 3 (by decide) (by rw[h5];simp)
 rw[c0 (df h5)]
 by_cases h6:m=[43,43]
 . rw[c1 (dt h6),c1 (dt h6)];exact op 10 (by decide) (by rw[h6];simp)
 rw[c0 (df h6)]
 by_cases h7:m=[45,45]
 . rw[c1 (dt h7)];exact op 10 (by decide) (by rw[h7];simp)
 rw[c0 (df h7)];exact rest
theorem prime_s{n:Nat}(h:S1 n):∀r,Rd r->10*r.l.length+1<=n+1->Ok ((M1 (n+1)).J7 r) (PE r):=by
 intro r hr hn;show Ok (J3 (M1 n) r) _;unfold J3;obtain⟨p,ep,pz⟩:=Y0o hr;refine Ok.step ep ?_
 dsimp only[jn]
 have lr:=hr.len;obtain⟨b,y2,e2,a2⟩:=M8 r [40];refine Ok.step e2 ?_;have l2:=a2.len;cases b with
 |true=>
  dsimp only[Ak]at a2 l2
  refine(h.assign y2 (hr.after a2) (by omega)).bind fun y3 a3=>?_;refine(N2 y3.2 _).bind fun y4 a4=>?_;exact Ok.ok ⟨a3.1,((a2.trans a3.2).trans a4).mono (by dsimp only;omega)⟩
 |false=>
 obtain⟨b,y5,e5,a5⟩:=M8 y2 [105,110];refine Ok.step e5 ?_;have a25:=a2.trans a5;have l5:=a5.len;cases b with
 |true=>
  refine(N2 y5 _).bind fun y6 a6=>?_;refine(N2 y6 _).bind fun y7 a7=>?_;exact Ok.ok ⟨Y6d (by simp) (by simp) (by simp) (show Z3u 7<=0 by decide) ⟨pz,fun _ e=>absurd e (by decide),fun e=>absurd e (by decide)⟩,((a25.trans a6).trans a7).mono (by dsimp only;rw[wEk];simp[sm])⟩
 |false=>
 obtain⟨b,y8,e8,a8⟩:=M8 y5 [111,117,116];refine Ok.step e8 ?_;have a28:=a25.trans a8;have l8:=a8.len;have hr8:=hr.after a28;cases b with
 |true=>
  dsimp only[Ak]at l8
  refine(h.bracketed y8 hr8 (by dsimp only[Aj]at l2 l5;omega)).bind fun y9 a9=>?_;exact Ok.ok ⟨Y6d a9.1.1 (by simp) (by simp) (show Z3u 7<=_ from kX _) ⟨pz,fun _ _=>a9.2,fun e=>absurd e (by decide)⟩,(a28.trans a9.1.2).mono (by dsimp only;rw[wEk];dsimp only[Aj];omega)⟩
 |false=>
 have nm:Ok ((U7 y8).bind fun y11=>exE y11 (fun y11=>(X8 y11.2 ([40]:Aa)).bind fun y12=>bif y12 then(((M1 n).F0 y11.2).bind fun y13=>exE y13 (fun y13=>some (qX (ε:=Z7×Z0) ((⟨7,p,([]:Aa),y11.1,0,(⟨([]:Aa),([]:Aa),0⟩:K6),y13.1⟩:Z5),y13.2))))else(some (qX ((⟨2,p,([]:Aa),y11.1,0,(⟨([]:Aa),([]:Aa),0⟩:K6),[]⟩:Z5),y11.2))))) (PE r):=by
  refine(Z3k hr8).bind fun y11 a11=>?_;obtain⟨b,e12,_⟩:=Z0d y11.2 [40];refine Ok.step e12 ?_;have l11:=a11.2.1.len;cases b with
  |true=>
   refine(h.handed y11.2 (hr8.after a11.2.1) (by dsimp only[Aj]at l2 l5 l8;omega)).bind fun y13 a13=>?_;exact Ok.ok ⟨Y6d a13.1 (by simp) a11.1 (show Z3u 7<=_ from kX _) ⟨pz,fun _ e=>absurd e a11.2.2,fun e=>absurd e (by decide)⟩,((a28.trans a11.2.1).trans a13.2).mono (by dsimp only;rw[wEk];dsimp only[Aj];omega)⟩
  |false=>exact Ok.ok ⟨Y6d (by simp) (by simp) a11.1 (show Z3u 2<=0 by decide) (Ex.of (k:=2) pz (by decide) (by decide)),(a28.trans a11.2.1).mono (by dsimp only;rw[wEk];simp[sm])⟩
 cases hl:y8.l with
 |nil=>
  rw[c0 (df (by simp))];exact nm
 |cons t l=>
  rw[c1 (dt (by simp only[qY];omega))]
  dsimp only[Aj]
  refine Ok.step (x:=t) rfl ?_
  by_cases hk:t.Kind=3
  . rw[c1 (by rw[hk];rfl)];refine(Y4g y8 3).bind fun y10 a10=>?_;exact Ok.ok ⟨Y6d (by simp) (by simp) (by simp) (show Z3u 1<=0 by decide) (Ex.of (k:=1) pz (by decide) (by decide)) (hr8.tu _ a10.1.1),(a28.trans a10.2).mono (by dsimp only;rw[wEk];simp[sm])⟩
  . rw[c0 (by simpa using hk)];exact nm
theorem rdS1:∀n,S1 n
 |0=>⟨fun r _ h=>by omega,fun r _ h=>by omega,fun r _ h=>by omega,fun r _ h=>by omega,fun r _ h=>by omega,fun r k _ h=>by omega,fun r _ h=>by omega,fun r _ h=>by omega⟩
 |n+1=>⟨X3m (rdS1 n),handed_s (rdS1 n),prime_s (rdS1 n),post_s (rdS1 n),unary_s (rdS1 n),binary_s (rdS1 n),cond_s (rdS1 n),assign_s (rdS1 n)⟩
theorem Z8q{r:Z0}(hr:Rd r):Ok (X3 r) (PE r):=(rdS1 NN).assign r hr (by have:=hr.len;unfold NN;omega)
theorem Z3d{r:Z0}(hr:Rd r):Ok (U1 r) (PL1 r 2):=(rdS1 NN).bracketed r hr (by have:=hr.len;unfold NN;omega)
theorem Y8k{r:Z0}(hr:Rd r){v:J2}(ht:OkT v.Type_)(hn:v.Name.length<=70000)(hp:Pn v.Pos):Ok (B5 r v) (fun x=>OkV x.1/\x.1.Type_=v.Type_/\Af r x.2 (x.1.Dims.length+sm wE x.1.Init+1)):=by
 unfold B5;have lr:=hr.len;refine(X2z hr).bind fun y1 a1=>?_
 dsimp only[jn]
 have fin:∀(x3:J2)(x4:Z0),OkV x3->x3.Type_=v.Type_->Af r x4 (x3.Dims.length+sm wE x3.Init)->Ok ((Y7 x4 ([59]:Aa)).bind fun y10=>exE y10 (fun y10=>some (qX (ε:=Z7×Z0) (x3,y10)))) (fun x=>OkV x.1/\x.1.Type_=v.Type_/\Af r x.2 (x.1.Dims.length+sm wE x.1.Init+1)):=by
  intro x3 x4 h1 h2 h3;exact(N2 x4 _).bind fun y a=>Ok.ok ⟨h1,h2,h3.trans a⟩
 obtain⟨b,y2,e2,a2⟩:=M8 y1.2 [61];refine Ok.step e2 ?_;have a12:=a1.trans a2;cases b with
 |false=>exact fin _ _ ⟨hn,ht,by simp,hp,fun _=>by simp⟩ rfl (a12.mono (by simp[sm]))
 |true=>
  obtain⟨c,y3,e3,a3⟩:=M8 y2 [123]
  dsimp only[Ak]
  refine Ok.step e3 ?_;have a13:=a12.trans a3;refine(Z8q (hr.after a13)).bind fun y4 a4=>?_;refine Ok.step (M9 (by simp)) ?_;have a14:=a13.trans a4.2;refine Ok.loop (fun s=>OkV s.1/\s.1.Type_=v.Type_/\Af r s.2 (s.1.Dims.length+sm wE s.1.Init)) (fun s=>s.2.l.length) ⟨⟨hn,ht,by simpa using a4.1,hp,fun _=>by simp⟩,rfl,a14.mono (by dsimp only;rw[List.nil_append,sm1];omega)⟩ (by have:=a14.len;dsimp only;omega) ?_;rintro⟨x7,x8⟩ ⟨i1,i2,i3⟩
  dsimp only at i1 i2 i3⊢
  have li:=i3.len;have hx:=Q1u Q3k x7.Init
  have stop:∀y5,Af r y5 (x7.Dims.length+sm wE x7.Init)->Ok (bif x7.Brace then((Y7 y5 ([125]:Aa)).bind fun y7=>exE y7 (fun y7=>(Y7 y7 ([59]:Aa)).bind fun y10=>exE y10 (fun y10=>some (qX (ε:=Z7×Z0) (x7,y10)))))else((Y7 y5 ([59]:Aa)).bind fun y10=>exE y10 (fun y10=>some (qX (ε:=Z7×Z0) (x7,y10))))) (fun x=>OkV x.1/\x.1.Type_=v.Type_/\Af r x.2 (x.1.Dims.length+sm wE x.1.Init+1)):=by
   intro y5 h5;cases x7.Brace with
   |true=>exact(N2 y5 _).bind fun y7 a7=>fin _ _ i1 i2 ((h5.trans a7).mono (by omega))
   |false=>exact fin _ _ i1 i2 h5
  cases hb:x7.Brace with
  |false=>
   refine Rn.ok ?_;have:=stop x8 i3;rw[hb]at this
   dsimp only[NxR,Lp.thn]
   rw[hb];exact this
  |true=>
   obtain⟨b,y5,e5,a5⟩:=M8 x8 [44]
   dsimp only[Ak]
   refine Rn.step e5 ?_;have a35:=i3.trans a5;have l5:=a5.len;cases b with
   |false=>
    refine Rn.ok ?_;have:=stop y5 (a35.mono (by omega));rw[hb]at this
    dsimp only[NxR,Lp.thn]
    rw[hb];exact this
   |true=>
    dsimp only[Ak]at l5
    refine Rn.bind (Z8q (hr.after a35)) (fun y6 a6=>?_) (fun e=>Ok.err);refine Rn.step (M9 (by simp;omega)) ?_;have l6:=a6.2.len
    dsimp only at l6
    refine Rn.ok ⟨⟨⟨i1.name,i1.ty,?_,i1.pos,fun e=>by cases e⟩,i2,(a35.trans a6.2).mono (by dsimp only[Ak];rw[Q2x,sm1];omega)⟩,by dsimp only;omega⟩;intro y hy
    rcases jQ.1 hy with hy|hy
    . exact i1.init y hy
    . have:y=y6.1:=by simpa using hy
      rw[this];exact a6.1
theorem X0e{r:Z0}(hr:Rd r):Ok (C5 r) (fun x=>OkV x.1/\Af r x.2 (wV x.1+2)):=by
 unfold C5;obtain⟨p,ep,pz⟩:=Y0o hr;refine Ok.step ep ?_;refine(Z1r hr).bind fun y2 a2=>?_;refine(Z3k (hr.after a2.2)).bind fun y3 a3=>?_;have a23:=a2.2.trans a3.2.1;refine(Y8k (hr.after a23) (v:=⟨p,y2.1,y3.1,[],[],false⟩) a2.1 a3.1 pz).bind fun y4 a4=>?_;refine Ok.ok ⟨a4.1,(a23.trans a4.2.2).mono ?_⟩;have h:wV y4.1=1+y4.1.Type_.Stars.toNat+y4.1.Dims.length+sm wE y4.1.Init:=rfl
 dsimp only
 rw[h,a4.2.1]
 dsimp only
 omega
theorem X2m(r:Z0)(k:Nat)(m:Aa):∃b,P1 r (k:Int) m=some b:=by
 unfold P1
 by_cases h:k<r.l.length
 . rw[c1 (dlt h),E8 h,qV]
   by_cases ht:r.l[k].Text=m
   . rw[c1 (dt ht),qV];cases(r.l[k].Kind==2)<;>exact⟨_,rfl⟩
   . rw[c0 (df ht)];exact⟨_,rfl⟩
 . rw[c0 (df (by omega))];exact⟨_,rfl⟩
theorem wV0{p:Pos}{t:K6}{s:Aa}{b:Bool}{d:List Int}:wV ⟨p,t,s,d,[],b⟩=1+t.Stars.toNat+d.length:=rfl
theorem X4i{r:Z0}(hr:Rd r):Ok (P5 r) (fun x=>(∀v∈x.1,OkV v)/\Af r x.2 (sm wV x.1+2)):=by
 unfold P5;have lr:=hr.len;refine(N2 r _).bind fun y1 a1=>?_
 dsimp only[jn]
 have key:∀x1,Af r x1 1->Ok ((Y6 x1 ([41]:Aa)).bind fun y5=>bif y5.1 then(some (qX ([],y5.2)))else((loopM (fun(x2,x3)=>((F7 x3).bind fun y6=>(U6 x3).bind fun y7=>exL y7 (fun y7=>(U7 y7.2).bind fun y8=>exL y8 (fun y8=>(Q1d (qQ x2+qQ ([(⟨y6,y7.1,y8.1,[],[],false⟩:J2)]:List J2))).bind fun _=>(Y6 y8.2 ([44]:Aa)).bind fun y9=>bif !y9.1 then((Y7 y9.2 ([41]:Aa)).bind fun y10=>exL y10 (fun y10=>some (Lp.ret (qX (x2++([(⟨y6,y7.1,y8.1,[],[],false⟩:J2)]:List J2),y10)))))else(some (Lp.go (x2++([(⟨y6,y7.1,y8.1,[],[],false⟩:J2)]:List J2),y9.2))))):Option (Lp ((List J2)×Z0) (An ((List J2)×Z0))))) NN ([],y5.2)).bind fun o=>o.thn (fun(x2,x3)=>none) (fun r=>some r))) (fun x=>(∀v∈x.1,OkV v)/\Af r x.2 (sm wV x.1+2)):=by
  intro x1 h1;obtain⟨b,y5,e5,a5⟩:=M8 x1 [41];refine Ok.step e5 ?_;have a15:=h1.trans a5;cases b with
  |true=>exact Ok.ok ⟨by simp,a15.mono (by simp[sm])⟩
  |false=>
   refine Ok.loop (fun s=>(∀v∈s.1,OkV v)/\Af r s.2 (sm wV s.1+1)) (fun s=>s.2.l.length) ⟨by simp,a15.mono (by simp[sm])⟩ (by have:=a15.len;dsimp only;omega) ?_;rintro⟨x2,x3⟩ ⟨i1,i2⟩
   dsimp only at i1 i2⊢
   have li:=i2.len;have hx:=Q1u Z4q x2;obtain⟨p,ep,pz⟩:=Y0o (hr.after i2);refine Rn.step ep ?_;refine Rn.bind (Z1r (hr.after i2)) (fun y7 a7=>?_) (fun e=>Ok.err);have a37:=i2.trans a7.2;refine Rn.bind (Z3k (hr.after a37)) (fun y8 a8=>?_) (fun e=>Ok.err);have a38:=a37.trans a8.2.1;refine Rn.step (M9 (by simp;omega)) ?_;obtain⟨b,y9,e9,a9⟩:=M8 y8.2 [44];refine Rn.step e9 ?_;have a39:=a38.trans a9
   have hv:∀v∈x2++[(⟨p,y7.1,y8.1,[],[],false⟩:J2)],OkV v:=by
    intro v hv
    rcases jQ.1 hv with hv|hv
    . exact i1 v hv
    . have:v=⟨p,y7.1,y8.1,[],[],false⟩:=by simpa using hv
      rw[this];exact⟨a8.1,a7.1,by simp,pz,fun _=>by simp⟩
   have hw:sm wV (x2++[(⟨p,y7.1,y8.1,[],[],false⟩:J2)])=sm wV x2+(1+y7.1.Stars.toNat):=by
    rw[Q2x,Q3q,wV0]
    simp[sm]
   have l7:=a7.2.len;have l8:=a8.2.1.len;have l9:=a9.len;cases b with
   |false=>
    refine Rn.bind (N2 y9 _) (fun y10 a10=>?_) (fun e=>Ok.err);exact Rn.ok (Ok.ok ⟨hv,(a39.trans a10).mono (by dsimp only;rw[hw];dsimp only[Aj];omega)⟩)
   |true=>
    exact Rn.ok ⟨⟨hv,a39.mono (by dsimp only;rw[hw];dsimp only[Ak];omega)⟩,by dsimp only[Ak]at l9⊢;omega⟩
 obtain⟨b,e2,_⟩:=Z0d y1 [118,111,105,100];refine Ok.step e2 ?_;cases b with
 |false=>exact key y1 a1
 |true=>
  obtain⟨c,e3⟩:=X2m y1 1 [41];refine Ok.step e3 ?_;cases c with
  |false=>exact key y1 a1
  |true=>exact(N2 y1 _).bind fun y4 a4=>key y4 ((a1.trans a4).mono (by omega))
theorem X4s{r:Z0}(hr:Rd r):Ok (R8 r) (fun x=>(∀v∈x.1,OkV v)/\Af r x.2 (sm wV x.1+3)):=by
 unfold R8;have lr:=hr.len;refine(N2 r _).bind fun y1 a1=>?_;refine Ok.loop (fun s=>(∀v∈s.1,OkV v)/\Af r s.2 (sm wV s.1+1)) (fun s=>s.2.l.length) ⟨by simp,a1.mono (by simp[sm])⟩ (by have:=a1.len;dsimp only;omega) ?_;rintro⟨x1,x2⟩ ⟨i1,i2⟩
 dsimp only at i1 i2⊢
 have li:=i2.len;have hx:=Q1u Z4q x1;obtain⟨b,y2,e2,a2⟩:=M8 x2 [125];refine Rn.step e2 ?_;have a12:=i2.trans a2;have l2:=a12.len;cases b with
 |true=>
  dsimp only[Ak,Aj,Bool.not_true]at a12⊢
  refine Rn.ok ?_;refine(N2 y2 _).bind fun y8 a8=>Ok.ok ⟨i1,(a12.trans a8).mono (by dsimp only;omega)⟩
 |false=>
  dsimp only[Ak,Aj,Bool.not_false]at a12 l2⊢
  obtain⟨p,ep,pz⟩:=Y0o (hr.after a12);refine Rn.step ep ?_;refine Rn.bind (Z1r (hr.after a12)) (fun y4 a4=>?_) (fun e=>Ok.err);have a24:=a12.trans a4.2;refine Rn.bind (Z3k (hr.after a24)) (fun y5 a5=>?_) (fun e=>Ok.err);have a25:=a24.trans a5.2.1;refine Rn.bind (X2z (hr.after a25)) (fun y6 a6=>?_) (fun e=>Ok.err);have a26:=a25.trans a6;refine Rn.bind (N2 y6.2 _) (fun y7 a7=>?_) (fun e=>Ok.err);have a27:=a26.trans a7;have l7:=a27.len;have l3:=a2.len;have l4:=a4.2.len;have l5:=a5.2.1.len;have l6:=a6.len;have l8:=a7.len;refine Rn.step (M9 (by simp;omega)) ?_;refine Rn.ok ⟨⟨?_,a27.mono ?_⟩,by dsimp only at*;omega⟩
  . intro v hv
    rcases jQ.1 hv with hv|hv
    . exact i1 v hv
    . have:v=⟨p,y4.1,y5.1,y6.1,[],false⟩:=by simpa using hv
      rw[this];exact⟨a5.1,a4.1,by simp,pz,fun _=>by simp⟩
  . dsimp only
    rw[Q2x,Q3q,wV0]
    simp only[sm,List.map_nil,List.sum_nil]
    omega
theorem Z5s{r:Z0}(hr:Rd r)(m:Aa):Ok (B6 r m) (PL r 1):=by
 unfold B6;obtain⟨b,y1,e1,a1⟩:=M8 r m;refine Ok.step e1 ?_;cases b with
 |true=>exact Ok.ok ⟨by simp,a1.mono (by simp[sm])⟩
 |false=>
  refine(Z8q (hr.after a1)).bind fun y2 a2=>?_;refine(N2 y2.2 _).bind fun y3 a3=>?_;exact Ok.ok ⟨by simpa using a2.1,((a1.trans a2.2).trans a3).mono (by dsimp only;rw[sm1];omega)⟩
theorem okS{k:Int}{p:Pos}{A B C:List Z5}{V:List J2}{S E:List V8}{D:List R5}(a:∀y∈A,OkE y)(b:∀y∈B,OkE y)(c:∀y∈C,OkE y)(v:∀y∈V,OkV y)(s:∀y∈S,OkS y)(e:∀y∈E,OkS y)(d:∀c∈D,∀y∈c.Body,OkS y)(sp:Pn p)(sa:Sa k A.length V.length)(cp:∀c∈D,Pn c.Pos):OkS ⟨k,p,A,B,C,V,S,E,D⟩:= .mk a b c v s e d sp sa cp
theorem Sa.a{k:Int}{a v:Nat}(h:1<=a)(h2:k≠2):Sa k a v:=⟨fun _=>h,fun e=>absurd e h2⟩
theorem Sa.n{k:Int}{a v:Nat}(h:¬(k=1\/k=3\/k=4\/k=5\/k=7))(h2:k≠2):Sa k a v:=⟨fun e=>absurd e h,fun e=>absurd e h2⟩
theorem wSk{k:Int}{p:Pos}{A B C:List Z5}{V:List J2}{S E:List V8}{D:List R5}:wS ⟨k,p,A,B,C,V,S,E,D⟩=1+sm wE A+sm wE B+sm wE C+sm wV V+sm wS S+sm wS E+sm wC D:=Y2i _
theorem sm0{α:Type}(w:α->Nat):sm w []=0:=rfl
theorem no{α:Type}{p:α->Prop}:∀y∈([]:List α),p y:=fun y hy=>by cases hy
theorem X6o{r:Z0}(hr:Rd r)(p:Pos)(hp:Pn p):Ok (N7 r ⟨0,p,[],[],[],[],[],[],[]⟩) (fun x=>OkS x.2/\Af r x.1 (wS x.2)):=by
 unfold N7;obtain⟨b,y1,e1,a1⟩:=M8 r [114,101,116,117,114,110];refine Ok.step e1 ?_;cases b with
 |true=>
  refine(Z5s (hr.after a1) _).bind fun y2 a2=>?_;exact Ok.ok ⟨okS a2.1 no no no no no no hp (Sa.n (by decide) (by decide)) no,(a1.trans a2.2).mono (by dsimp only[Ak];rw[wSk];simp only[sm0];omega)⟩
 |false=>
 obtain⟨b,y3,e3,a3⟩:=M8 y1 [98,114,101,97,107];refine Ok.step e3 ?_;have a13:=a1.trans a3;cases b with
 |true=>
  refine(N2 y3 _).bind fun y4 a4=>?_;exact Ok.ok ⟨okS no no no no no no no hp (Sa.n (by decide) (by decide)) no,(a13.trans a4).mono (by dsimp only[Ak,Aj];rw[wSk];simp only[sm0];omega)⟩
 |false=>
 obtain⟨b,y5,e5,a5⟩:=M8 y3 [99,111,110,116,105,110,117,101];refine Ok.step e5 ?_;have a15:=a13.trans a5;cases b with
 |true=>
  refine(N2 y5 _).bind fun y6 a6=>?_;exact Ok.ok ⟨okS no no no no no no no hp (Sa.n (by decide) (by decide)) no,(a15.trans a6).mono (by dsimp only[Ak,Aj];rw[wSk];simp only[sm0];omega)⟩
 |false=>
  refine(Z8q (hr.after a15)).bind fun y7 a7=>?_;refine(N2 y7.2 _).bind fun y8 a8=>?_;exact Ok.ok ⟨okS (by simpa using a7.1) no no no no no no hp (Sa.a (qD 1) (by decide)) no,((a15.trans a7.2).trans a8).mono (by dsimp only[Aj];rw[wSk,sm1];simp only[sm0];omega)⟩
def PB(r:Z0)(k:Nat)(x:List V8×Z0):Prop:=(∀y∈x.1,OkS y)/\Af r x.2 (sm wS x.1+k)
def OkC(c:R5):Prop:=(∀y∈c.Body,OkS y)/\Pn c.Pos
def PC(r:Z0)(k:Nat)(x:List R5×Z0):Prop:=(∀c∈x.1,OkC c)/\Af r x.2 (sm wC x.1+k)
def PS(r:Z0)(x:V8×Z0):Prop:=OkS x.1/\Af r x.2 (wS x.1)
structure S2(n:Nat):Prop where
 block:∀r,Rd r->10*r.l.length+1<=n->Ok ((Q5s n).G7 r) (PB r 2)
 cases_:∀r,Rd r->10*r.l.length+1<=n->Ok ((Q5s n).N9 r) (PC r 2)
 stmt:∀r,Rd r->10*r.l.length+2<=n->Ok ((Q5s n).J1 r) (PS r)
 body:∀r,Rd r->10*r.l.length+3<=n->Ok ((Q5s n).J9 r) (PB r 0)
theorem body_s{n:Nat}(h:S2 n):∀r,Rd r->10*r.l.length+3<=n+1->Ok ((Q5s (n+1)).J9 r) (PB r 0):=by
 intro r hr hn;show Ok (R9 (Q5s n) r) _;unfold R9;refine(h.stmt r hr (by omega)).bind fun y1 a1=>?_;have hw:=Y2i y1.1;cases hk:(y1.1.Kind==11)with
 |true=>exact Ok.ok ⟨match a1.1 with| .mk a b c v s e d _ _ _=>s,a1.2.mono (by dsimp only;omega)⟩
 |false=>exact Ok.ok ⟨by simpa using a1.1,a1.2.mono (by dsimp only;rw[Q3q,sm0];omega)⟩
theorem block_s{n:Nat}(h:S2 n):∀r,Rd r->10*r.l.length+1<=n+1->Ok ((Q5s (n+1)).G7 r) (PB r 2):=by
 intro r hr hn;show Ok (I9 (Q5s n) r) _;unfold I9;have lr:=hr.len;refine(N2 r _).bind fun y1 a1=>?_;refine Ok.loop (fun s=>(∀y∈s.1,OkS y)/\Af r s.2 (sm wS s.1+1)) (fun s=>s.2.l.length) ⟨no,a1.mono (by simp[sm])⟩ (by have:=a1.len;dsimp only;omega) ?_;rintro⟨x1,x2⟩ ⟨i1,i2⟩
 dsimp only at i1 i2⊢
 have li:=i2.len;have hx:=Q1u Z5z x1;obtain⟨b,y2,e2,a2⟩:=M8 x2 [125];refine Rn.step e2 ?_;have a12:=i2.trans a2;have l2:=a12.len;have l3:=a2.len;cases b with
 |true=>
  dsimp only[Ak,Aj,Bool.not_true]at a12⊢
  exact Rn.ok (Ok.ok ⟨i1,a12.mono (by dsimp only;omega)⟩)
 |false=>
  dsimp only[Ak,Aj,Bool.not_false]at a12 l2 l3⊢
  refine Rn.bind (h.stmt y2 (hr.after a12) (by omega)) (fun y3 a3=>?_) (fun e=>Ok.err);have a13:=a12.trans a3.2;have l4:=a3.2.len;have hp:=Z5z y3.1;refine Rn.step (M9 (by simp;omega)) ?_;refine Rn.ok ⟨⟨?_,a13.mono (by dsimp only;rw[Q2x,Q3q,sm0];omega)⟩,by dsimp only;omega⟩;intro y hy
  rcases jQ.1 hy with hy|hy
  . exact i1 y hy
  . have:y=y3.1:=by simpa using hy
    rw[this];exact a3.1
theorem cases_s{n:Nat}(h:S2 n):∀r,Rd r->10*r.l.length+1<=n+1->Ok ((Q5s (n+1)).N9 r) (PC r 2):=by
 intro r hr hn;show Ok (I8 (Q5s n) r) _;unfold I8;have lr:=hr.len;refine(N2 r _).bind fun y1 a1=>?_;have l1:=a1.len;refine Ok.loop (fun s=>(∀c∈s.1,OkC c)/\Af r s.2 (sm wC s.1+1)) (fun s=>s.2.l.length) ⟨no,a1.mono (by simp[sm])⟩ (by dsimp only;omega) ?_;rintro⟨x1,x2⟩ ⟨i1,i2⟩
 dsimp only at i1 i2⊢
 have li:=i2.len;have hx:=Q1u X3u x1;obtain⟨b,y2,e2,a2⟩:=M8 x2 [125];refine Rn.step e2 ?_;have a12:=i2.trans a2;have l2:=a12.len;have l3:=a2.len;cases b with
 |true=>
  dsimp only[Ak,Aj,Bool.not_true]at a12⊢
  exact Rn.ok (Ok.ok ⟨i1,a12.mono (by dsimp only;omega)⟩)
 |false=>
  dsimp only[Ak,Aj,Bool.not_false]at a12 l2 l3⊢
  obtain⟨p,ep,pz⟩:=Y0o (hr.after a12);refine Rn.step ep ?_
  dsimp only[jn]
  have key:∀(x4:R5)(x5:Z0),x4.Body=[]->Pn x4.Pos->Af x2 x5 1->Rn ((Y7 x5 ([58]:Aa)).bind fun y8=>exL y8 (fun y8=>(loopM (fun(x7,x8)=>((X8 x8 ([99,97,115,101]:Aa)).bind fun y9=>bif !y9 then((X8 x8 ([100,101,102,97,117,108,116]:Aa)).bind fun y10=>bif !y10 then((X8 x8 ([125]:Aa)).bind fun y11=>bif !y11 then(((Q5s n).J1 x8).bind fun y12=>exL y12 (fun y12=>(Q1d (qQ x7.Body+qQ ([y12.1]:List V8))).bind fun _=>some (Lp.go ({x7 with Body:=x7.Body++([y12.1]:List V8)},y12.2))))else(some (Lp.brk (x7,x8))))else(some (Lp.brk (x7,x8))))else(some (Lp.brk (x7,x8))):Option (Lp (R5×Z0) (An ((List R5)×Z0))))) NN (x4,y8)).bind fun o=>o.thn (fun(x7,x8)=>(Q1d (qQ x1+qQ ([x7]:List R5))).bind fun _=>some (Lp.go (x1++([x7]:List R5),x8))) (fun r=>some (Lp.ret r)))) (NxR (fun s=>(∀c∈s.1,OkC c)/\Af r s.2 (sm wC s.1+1)) (fun s=>s.2.l.length) (x1,x2) (fun o=>o.thn (fun(x1,x2)=>some (qX (ε:=Z7×Z0) (x1,x2))) (fun r=>some r)) (PC r 2)):=by
   intro x4 x5 hb hp a5;refine Rn.bind (N2 x5 _) (fun y8 a8=>?_) (fun e=>Ok.err);have a28:=a5.trans a8;have l8:=a28.len
   refine Exists.elim (Q4b (body:=(fun(x7,x8)=>((X8 x8 ([99,97,115,101]:Aa)).bind fun y9=>bif !y9 then((X8 x8 ([100,101,102,97,117,108,116]:Aa)).bind fun y10=>bif !y10 then((X8 x8 ([125]:Aa)).bind fun y11=>bif !y11 then(((Q5s n).J1 x8).bind fun y12=>exL y12 (fun y12=>(Q1d (qQ x7.Body+qQ ([y12.1]:List V8))).bind fun _=>some (Lp.go ({x7 with Body:=x7.Body++([y12.1]:List V8)},y12.2))))else(some (Lp.brk (x7,x8))))else(some (Lp.brk (x7,x8))))else(some (Lp.brk (x7,x8))):Option (Lp (R5×Z0) (An ((List R5)×Z0)))))) (n:=NN) (s:=(x4,y8))
    (fun s=>OkC s.1/\Af x2 s.2 (sm wS s.1.Body+2)) (fun s=>s.2.l.length)
    (fun o=>match o with
     | .go _=>False
     | .brk s=>OkC s.1/\Af x2 s.2 (sm wS s.1.Body+2)
     | .ret z=>∃e,z=qK e) ⟨⟨by rw[hb];exact no,hp⟩,by dsimp only;rw[hb];exact a28.mono (by simp[sm])⟩ (Z1i (by dsimp only;omega)) ?_) ?_
   . rintro⟨x7,x8⟩ ⟨j1,j2⟩
     dsimp only at j1 j2⊢
     have lj:=j2.len;have hx7:=Q1u Z5z x7.Body;obtain⟨b1,e1,_⟩:=Z0d x8 [99,97,115,101];rw[e1,qV];cases b1 with
     |true=>exact⟨_,rfl,j1,j2⟩
     |false=>
     rw[c1 (b:=!false) rfl];obtain⟨b1,e1,_⟩:=Z0d x8 [100,101,102,97,117,108,116];rw[e1,qV];cases b1 with
     |true=>exact⟨_,rfl,j1,j2⟩
     |false=>
     rw[c1 (b:=!false) rfl];obtain⟨b1,e1,_⟩:=Z0d x8 [125];rw[e1,qV];cases b1 with
     |true=>exact⟨_,rfl,j1,j2⟩
     |false=>
     rw[c1 (b:=!false) rfl];obtain⟨z,ez,hz⟩:=h.stmt x8 (hr.after (i2.trans j2)) (by omega);rw[ez,qV];cases z with
     |error e=>exact⟨_,rfl,_,rfl⟩
     |ok y12=>
      have lz:=hz.2.len;have hp:=Z5z y12.1
      dsimp only[exL,exE,exC]
      rw[M9 (by simp;omega),qV];refine⟨_,rfl,⟨⟨?_,j1.2⟩,(j2.trans hz.2).mono (by dsimp only;rw[Q2x,Q3q,sm0];omega)⟩,by dsimp only;omega⟩;intro y hy
      rcases jQ.1 hy with hy|hy
      . exact j1.1 y hy
      . have:y=y12.1:=by simpa using hy
        rw[this];exact hz.1
   . rintro o ⟨ho,hp⟩;rw[ho,qV];cases o with
     |go _=>exact hp.elim
     |ret z=>
      obtain⟨e,rfl⟩:=hp;exact Rn.ok Ok.err
     |brk s=>
      obtain⟨x7,x8⟩:=s;obtain⟨j1,j2⟩:=hp
      dsimp only at j1 j2
      have lj:=j2.len;have hwc:wC x7=1+sm wS x7.Body:=rfl;refine Rn.step (M9 (by simp;omega)) ?_;refine Rn.ok ⟨⟨?_,(i2.trans j2).mono (by dsimp only;rw[Q2x,Q3q,sm0];omega)⟩,by dsimp only;omega⟩;intro c hc
      rcases jQ.1 hc with hc|hc
      . exact i1 c hc
      . have:c=x7:=by simpa using hc
        rw[this];exact j1
  obtain⟨b,y4,e4,a4⟩:=M8 y2 [100,101,102,97,117,108,116];refine Rn.step e4 ?_;have a24:=a2.trans a4;cases b with
  |true=>exact key _ _ rfl pz (a24.mono (by simp))
  |false=>
   refine Rn.bind (N2 y4 _) (fun y5 a5=>?_) (fun e=>Ok.err);obtain⟨b,y6,e6,a6⟩:=M8 y5 [45];refine Rn.step e6 ?_;refine Rn.bind (Y4g y6 3) (fun y7 a7=>?_) (fun e=>Ok.err);have a27:=((a24.trans a5).trans a6).trans a7.2;cases b with
   |true=>exact key _ _ rfl pz (a27.mono (by simp))
   |false=>exact key _ _ rfl pz (a27.mono (by simp))
def gS(e:Z7×Z0):Z7×Z0:=(e.1,{e.2 with depth:=qJ .i64 (e.2.depth-1)})
theorem stmt_s{n:Nat}(h:S2 n):∀r,Rd r->10*r.l.length+2<=n+1->Ok ((Q5s (n+1)).J1 r) (PS r):=by
 intro r hr hn;show Ok (V0 (Q5s n) r) _;unfold V0;refine(Z8f hr).bind fun y1 d1=>?_;have hr1:=hr.down d1;have ld:y1.l.length=r.l.length:=by rw[d1.1]
 obtain⟨p,ep,pz⟩:=Y0o hr1;refine Ok.step ep ?_
 dsimp only[jn]
 have fin:∀(x1:V8)(x2:Z0),OkS x1->Af y1 x2 (wS x1)->Ok (some (qX (ε:=Z7×Z0) (x1,{x2 with depth:=qJ .i64 (x2.depth-1)}))) (PS r):=fun x1 x2 h1 h2=>Ok.ok ⟨h1,Af.up hr d1 h2⟩;obtain⟨b,e3,_⟩:=Y8z y1;refine Ok.step e3 ?_;cases b with
 |true=>
  refine Ok.bind (g:=gS) (X0e hr1) fun y4 a4=>?_;exact fin _ _ (okS no no no (by simpa using a4.1) no no no pz ⟨fun h=>absurd h (by decide),fun _=>qD 1⟩ no) (a4.2.mono (by rw[wSk,Q3q];simp only[sm0];omega))
 |false=>
 obtain⟨b,e5,_⟩:=Z0d y1 [123];refine Ok.step e5 ?_;cases b with
 |true=>
  refine Ok.bind (g:=gS) (h.block y1 hr1 (by(try dsimp only at*);omega)) fun y6 a6=>?_;exact fin _ _ (okS no no no no a6.1 no no pz (Sa.n (by decide) (by decide)) no) (a6.2.mono (by rw[wSk];simp only[sm0];omega))
 |false=>
 obtain⟨b,y7,e7,a7⟩:=M8 y1 [59];refine Ok.step e7 ?_;cases b with
 |true=>exact fin _ _ (okS no no no no no no no pz (Sa.n (by decide) (by decide)) no) (a7.mono (by dsimp only[Ak];rw[wSk];simp only[sm0];omega))
 |false=>
 obtain⟨b,y8,e8,a8⟩:=M8 y7 [105,102];refine Ok.step e8 ?_;have a8:=a7.trans a8;have l8:=a8.len;cases b with
 |true=>
  dsimp only[Ak,Aj]at a8 l8
  have hr8:=hr1.after a8;refine Ok.bind (g:=gS) (Z3d hr8) fun y9 a9=>?_;have l9:=a9.1.2.len;refine Ok.bind (g:=gS) (h.body y9.2 (hr8.after a9.1.2) (by(try dsimp only at*);omega)) fun y10 a10=>?_;have l10:=a10.2.len;obtain⟨b,y11,e11,a11⟩:=M8 y10.2 [101,108,115,101];refine Ok.step e11 ?_;have a11':=((a8.trans a9.1.2).trans a10.2).trans a11;have l11:=a11.len;cases b with
  |true=>
   refine Ok.bind (g:=gS) (h.body y11 (hr1.after a11') (by(try dsimp only at*);omega)) fun y12 a12=>?_;exact fin _ _ (okS a9.1.1 no no no a10.1 a12.1 no pz (Sa.a a9.2 (by decide)) no) ((a11'.trans a12.2).mono (by rw[wSk];simp only[sm0];dsimp only[Ak];omega))
  |false=>exact fin _ _ (okS a9.1.1 no no no a10.1 no no pz (Sa.a a9.2 (by decide)) no) (a11'.mono (by rw[wSk];simp only[sm0];omega))
 |false=>
 obtain⟨b,y13,e13,a13⟩:=M8 y8 [119,104,105,108,101];refine Ok.step e13 ?_;have a13:=a8.trans a13;have l13:=a13.len;cases b with
 |true=>
  dsimp only[Ak,Aj]at a13 l13
  have hr13:=hr1.after a13;refine Ok.bind (g:=gS) (Z3d hr13) fun y14 a14=>?_;have l14:=a14.1.2.len;refine Ok.bind (g:=gS) (h.body y14.2 (hr13.after a14.1.2) (by(try dsimp only at*);omega)) fun y15 a15=>?_;exact fin _ _ (okS a14.1.1 no no no a15.1 no no pz (Sa.a a14.2 (by decide)) no) (((a13.trans a14.1.2).trans a15.2).mono (by rw[wSk];simp only[sm0];omega))
 |false=>
 obtain⟨b,y16,e16,a16⟩:=M8 y13 [100,111];refine Ok.step e16 ?_;have a16:=a13.trans a16;have l16:=a16.len;cases b with
 |true=>
  dsimp only[Ak,Aj]at a16 l16
  have hr16:=hr1.after a16;refine Ok.bind (g:=gS) (h.body y16 hr16 (by(try dsimp only at*);omega)) fun y17 a17=>?_;refine Ok.bind (g:=gS) (N2 y17.2 _) fun y18 a18=>?_;have a18':=(a16.trans a17.2).trans a18;refine Ok.bind (g:=gS) (Z3d (hr1.after a18')) fun y19 a19=>?_;refine Ok.bind (g:=gS) (N2 y19.2 _) fun y20 a20=>?_;exact fin _ _ (okS a19.1.1 no no no a17.1 no no pz (Sa.a a19.2 (by decide)) no) (((a18'.trans a19.1.2).trans a20).mono (by rw[wSk];simp only[sm0];omega))
 |false=>
 obtain⟨b,y21,e21,a21⟩:=M8 y16 [102,111,114];refine Ok.step e21 ?_;have a21:=a16.trans a21;have l21:=a21.len;cases b with
 |true=>
  dsimp only[Ak,Aj]at a21 l21
  refine Ok.bind (g:=gS) (N2 y21 _) fun y22 a22=>?_;have a22':=a21.trans a22;refine Ok.bind (g:=gS) (Z5s (hr1.after a22') _) fun y23 a23=>?_;have a23':=a22'.trans a23.2;refine Ok.bind (g:=gS) (Z5s (hr1.after a23') _) fun y24 a24=>?_;have a24':=a23'.trans a24.2;refine Ok.bind (g:=gS) (Z5s (hr1.after a24') _) fun y25 a25=>?_;have a25':=a24'.trans a25.2;have l25:=a25'.len;refine Ok.bind (g:=gS) (h.body y25.2 (hr1.after a25') (by(try dsimp only at*);omega)) fun y26 a26=>?_;exact fin _ _ (okS a23.1 a24.1 a25.1 no a26.1 no no pz (Sa.n (by decide) (by decide)) no) ((a25'.trans a26.2).mono (by rw[wSk];simp only[sm0];omega))
 |false=>
 obtain⟨b,y27,e27,a27⟩:=M8 y21 [115,119,105,116,99,104];refine Ok.step e27 ?_;have a27:=a21.trans a27;have l27:=a27.len;cases b with
 |true=>
  dsimp only[Ak,Aj]at a27 l27
  have hr27:=hr1.after a27;refine Ok.bind (g:=gS) (Z3d hr27) fun y28 a28=>?_;have l28:=a28.1.2.len;refine Ok.bind (g:=gS) (h.cases_ y28.2 (hr27.after a28.1.2) (by(try dsimp only at*);omega)) fun y29 a29=>?_;exact fin _ _ (okS a28.1.1 no no no no no (fun c hc=>(a29.1 c hc).1) pz (Sa.a a28.2 (by decide)) fun c hc=>(a29.1 c hc).2) (((a27.trans a28.1.2).trans a29.2).mono (by rw[wSk];simp only[sm0];omega))
 |false=>
  refine Ok.bind (g:=fun e:Z7×Z0×V8=>(e.1,{e.2.1 with depth:=qJ .i64 (e.2.1.depth-1)})) (X6o (hr1.after a27) p pz) fun y30 a30=>?_;exact fin _ _ a30.1 ((a27.trans a30.2).mono (by omega))
theorem rdS2:∀n,S2 n
 |0=>⟨fun r _ h=>by omega,fun r _ h=>by omega,fun r _ h=>by omega,fun r _ h=>by omega⟩
 |n+1=>⟨block_s (rdS2 n),cases_s (rdS2 n),stmt_s (rdS2 n),body_s (rdS2 n)⟩
theorem X7j{r:Z0}(hr:Rd r):Ok (G7 r) (PB r 2):=(rdS2 NN).block r hr (by have:=hr.len;unfold NN;omega)
theorem X6r{r:Z0}(hr:Rd r){p:U3}(hp:OkP p)(hw:wP p<=70000):Ok (N8 r p) (fun x=>OkP x.2/\∃k,wP x.2=wP p+k/\1<=k/\Af r x.1 k):=by
 unfold N8;have hwp:wP p=sm wT p.Structs+sm wV p.Globals+sm wF p.Funcs:=rfl;have l1:=Q1u X0c p.Structs;have l2:=Q1u Z4q p.Globals;have l3:=Q1u X0d p.Funcs;obtain⟨q,eq,qz⟩:=Y0o hr;refine Ok.step eq ?_
 dsimp only[jn]
 have rest:Ok ((U6 r).bind fun y13=>exC y13 (fun y13=>(U7 y13.2).bind fun y14=>exC y14 (fun y14=>(X8 y14.2 ([40]:Aa)).bind fun y15=>bif !y15 then((B5 y14.2 (⟨q,y13.1,y14.1,[],[],false⟩:J2)).bind fun y16=>exC y16 (fun y16=>(Q1d (qQ p.Globals+qQ ([y16.1]:List J2))).bind fun _=>some (qX (y16.2,{p with Globals:=p.Globals++([y16.1]:List J2)}))) (fun e9=>some (qK (e9.1,e9.2,p))))else((P5 y14.2).bind fun y17=>exC y17 (fun y17=>(G7 y17.2).bind fun y18=>exC y18 (fun y18=>(Q1d (qQ p.Funcs+qQ ([{(⟨q,y13.1,y14.1,y17.1,[]⟩:L6)with Body:=y18.1}]:List L6))).bind fun _=>some (qX (y18.2,{p with Funcs:=p.Funcs++([{(⟨q,y13.1,y14.1,y17.1,[]⟩:L6)with Body:=y18.1}]:List L6)}))) (fun e11=>some (qK (e11.1,e11.2,p)))) (fun e10=>some (qK (e10.1,e10.2,p))))) (fun e12=>some (qK (e12.1,e12.2,p)))) (fun e13=>some (qK (e13.1,e13.2,p)))) (fun x=>OkP x.2/\∃k,wP x.2=wP p+k/\1<=k/\Af r x.1 k):=by
  refine Ok.bind (g:=fun e:Z7×Z0=>(e.1,e.2,p)) (Z1r hr) fun y13 a13=>?_;refine Ok.bind (g:=fun e:Z7×Z0=>(e.1,e.2,p)) (Z3k (hr.after a13.2)) fun y14 a14=>?_;have a134:=a13.2.trans a14.2.1;have hr14:=hr.after a134;obtain⟨b,e15,_⟩:=Z0d y14.2 [40];refine Ok.step e15 ?_;cases b with
  |false=>
   refine Ok.bind (g:=fun e:Z7×Z0=>(e.1,e.2,p)) (Y8k hr14 (v:=⟨q,y13.1,y14.1,[],[],false⟩) a13.1 a14.1 qz) fun y16 a16=>?_;have hv:wV y16.1=1+y16.1.Type_.Stars.toNat+y16.1.Dims.length+sm wE y16.1.Init:=rfl;rw[a16.2.1]at hv;refine Ok.step (M9 (by simp;omega)) ?_;refine Ok.ok ⟨⟨hp.s,?_,hp.f⟩,wV y16.1,?_,Z4q _,(a134.trans a16.2.2).mono (by dsimp only at hv⊢;omega)⟩
   . intro v hv
     rcases jQ.1 hv with hv|hv
     . exact hp.g v hv
     . have:v=y16.1:=by simpa using hv
       rw[this];exact a16.1
   . show sm wT p.Structs+sm wV (p.Globals++[y16.1])+sm wF p.Funcs=_;rw[Q2x,Q3q,sm0];omega
  |true=>
   refine Ok.bind (g:=fun e:Z7×Z0=>(e.1,e.2,p)) (X4i hr14) fun y17 a17=>?_;have a17':=a134.trans a17.2;refine Ok.bind (g:=fun e:Z7×Z0=>(e.1,e.2,p)) (X7j (hr.after a17')) fun y18 a18=>?_;refine Ok.step (M9 (by simp;omega)) ?_;have hf:wF (⟨q,y13.1,y14.1,y17.1,y18.1⟩:L6)=1+y13.1.Stars.toNat+sm wV y17.1+sm wS y18.1:=rfl;refine Ok.ok ⟨⟨hp.s,hp.g,?_⟩,wF (⟨q,y13.1,y14.1,y17.1,y18.1⟩:L6),?_,X0d _,(a17'.trans a18.2).mono (by omega)⟩
   . intro f hf
     rcases jQ.1 hf with hf|hf
     . exact hp.f f hf
     . have:f=⟨q,y13.1,y14.1,y17.1,y18.1⟩:=by simpa using hf
       rw[this];exact⟨a14.1,a13.1,a17.1,a18.1,qz⟩
   . show sm wT p.Structs+sm wV p.Globals+sm wF (p.Funcs++[(⟨q,y13.1,y14.1,y17.1,y18.1⟩:L6)])=_;rw[Q2x,Q3q,sm0];omega
 obtain⟨b,e2,_⟩:=Z0d r [115,116,114,117,99,116];refine Ok.step e2 ?_;cases b with
 |false=>exact rest
 |true=>
  obtain⟨b,e3⟩:=X2m r 2 [123];refine Ok.step e3 ?_;cases b with
  |false=>exact rest
  |true=>
   refine Ok.bind (g:=fun e:Z7×Z0=>(e.1,e.2,p)) (N2 r _) fun y4 a4=>?_;refine Ok.bind (g:=fun e:Z7×Z0=>(e.1,e.2,p)) (Z3k (hr.after a4)) fun y5 a5=>?_;have a45:=a4.trans a5.2.1;refine Ok.bind (g:=fun e:Z7×Z0=>(e.1,e.2,p)) (X4s (hr.after a45)) fun y6 a6=>?_;refine Ok.step (M9 (by simp;omega)) ?_;have hf:wT (⟨q,y5.1,y6.1⟩:S8)=1+sm wV y6.1:=rfl;refine Ok.ok ⟨⟨?_,hp.g,hp.f⟩,wT (⟨q,y5.1,y6.1⟩:S8),?_,X0c _,(a45.trans a6.2).mono (by omega)⟩
   . intro s hs
     rcases jQ.1 hs with hs|hs
     . exact hp.s s hs
     . have:s=⟨q,y5.1,y6.1⟩:=by simpa using hs
       rw[this];exact⟨a5.1,a6.1,qz⟩
   . show sm wT (p.Structs++[(⟨q,y5.1,y6.1⟩:S8)])+sm wV p.Globals+sm wF p.Funcs=_;rw[Q2x,Q3q,sm0];omega
theorem try_any{r:Z0}(hr:Rd r):∃z,Q0k r=some z/\∀x,z= .ok x->OkP x.1/\wP x.1<=r.l.length:=by
 unfold Q0k;have lr:=hr.len
 refine Exists.elim (Q4b (body:=(fun(x4,x5)=>(bif decide (0<(qQ x5.l:Int))then((N8 x5 x4).bind fun y1=>exC y1 (fun y1=>some (Lp.go (y1.2,y1.1))) (fun e1=>some (Lp.ret (qK ((⟨[],[],[]⟩:U3),e1.1,e1.2.1)))))else(some (Lp.brk (x4,x5))):Option (Lp (U3×Z0) (Except (U3×Z7×Z0) (U3×Z0)))))) (n:=NN) (s:=((⟨[],[],[]⟩:U3),r))
  (fun s=>OkP s.1/\Af r s.2 (wP s.1)) (fun s=>s.2.l.length)
  (fun o=>match o with
   | .go _=>False
   | .brk s=>OkP s.1/\wP s.1<=r.l.length
   | .ret z=>∃e,z=qK e) ⟨⟨no,no,no⟩,(Af.refl r).mono (qD 0)⟩ (Z1i (by dsimp only;omega)) ?_) ?_
 . rintro⟨x4,x5⟩ ⟨i1,i2⟩
   dsimp only at i1 i2⊢
   have li:=i2.len
   by_cases hl:0<x5.l.length
   . rw[c1 (dt (by omega))];obtain⟨z,ez,hz⟩:=X6r (hr.after i2) i1 (by omega);rw[ez,qV];cases z with
     |error e=>exact⟨_,rfl,_,rfl⟩
     |ok x=>
      obtain⟨h1,k,h2,h3,h4⟩:=hz;have:=h4.len;exact⟨_,rfl,⟨h1,(i2.trans h4).mono (by dsimp only;omega)⟩,by dsimp only;omega⟩
   . rw[c0 (df (by omega))];exact⟨_,rfl,i1,by dsimp only;omega⟩
 . rintro o ⟨ho,hp⟩;rw[ho,qV];cases o with
   |go _=>exact hp.elim
   |ret z=>
    obtain⟨e,rfl⟩:=hp;exact⟨_,rfl,fun x hx=>by cases hx⟩
   |brk s=>
    obtain⟨x4,x5⟩:=s;exact⟨_,rfl,fun x hx=>by cases hx;exact hp⟩
theorem out_tok:Q0r (Y6b++[])=some (⟨2,Y6b,0,Z7u⟩,0):=by kernel_rfl
theorem lx_cnt{s:Aa}{ts:List Y8}(h:Lx s ts)(hl:s.length<=100000):ts.length<=s.length/\∀t∈ts,t.Text.length<=s.length/\(t.Kind=1->t.Text≠Y6b)/\U32 t.Num:=by
 induction h with
 |nil=>simp
 |@blank s ts h n hn h0 k ih=>
  obtain⟨i1,i2⟩:=ih (by simp;omega);rw[List.length_drop]at i1 i2;exact⟨by omega,fun t ht=>⟨by have:=(i2 t ht).1;omega,(i2 t ht).2⟩⟩
 |@tok s t ts h hb ht k ih=>
  obtain⟨i1,i2⟩:=ih (by simp;omega);rw[List.length_drop]at i1 i2;obtain⟨y,ey,hT⟩:=Y2w s h hl;rw[ey]at ht;cases ht;have hT:=hT rfl;have h1:=List.length_pos_iff.2 hT.ne;have h2:=hT.pre.length_le
  dsimp only at h1 h2 i1 i2
  refine⟨by rw[qY];omega,fun x hx=>?_⟩
  rcases qZ.1 hx with rfl|hx
  . refine⟨h2,fun hk he=>?_,hT.nu⟩;have h3:=hT.again [] (fun c hc=>by cases hc) (by rw[jK];dsimp only;omega)
    dsimp only at h3
    rw[he,out_tok]at h3;have:x=⟨2,Y6b,0,Z7u⟩:=(congrArg (fun z=>z.1) (Option.some.inj h3)).symm;rw[this]at hk;exact absurd hk (by decide)
  . exact⟨by have:=(i2 x hx).1;omega,(i2 x hx).2⟩
theorem X3r(s:Aa)(hs:s.length<=65536):∃p q e,Q5i s=some (p,q,e)/\(e=0->OkP p/\wP p<=s.length):=by
 obtain⟨⟨l,q,e⟩,ey,hy⟩:=Y9l s (by omega);unfold Q5i;rw[ey,qV]
 dsimp only at hy⊢
 by_cases he:e=0
 . have hx:Lx s (l.map Z4v)/\(∀t∈l,Pn t.Pos)/\Pn q:=by
    rcases hy with hy|hy
    . exact hy.2
    . exact absurd he hy.1
   obtain⟨c1',c2⟩:=lx_cnt hx.1 (by omega);rw[List.length_map]at c1';have hr:Rd ⟨l,q,0⟩:=⟨fun t ht=>by have:=c2 (Z4v t) (List.mem_map_of_mem ht);exact jH this.1 (by omega),by dsimp only;omega,⟨qC 0,(by decide:(0:Int)<=200)⟩,hx.2.1,hx.2.2,fun t ht=>(c2 (Z4v t) (List.mem_map_of_mem ht)).2.1,fun t ht=>(c2 (Z4v t) (List.mem_map_of_mem ht)).2.2⟩;obtain⟨z,ez,hz⟩:=try_any hr;rw[c0 (by rw[he];rfl),ez,qV];cases z with
   |ok x=>exact⟨_,_,_,rfl,fun _=>⟨(hz x rfl).1,jH (hz x rfl).2 c1'⟩⟩
   |error x=>exact⟨_,_,_,rfl,fun _=>⟨⟨no,no,no⟩,kX _⟩⟩
 . rw[c1 (by simpa using he)];exact⟨_,_,_,rfl,fun _=>⟨⟨no,no,no⟩,kX _⟩⟩
def Sv{Z Z':Type}(Q:Z->Z'->Prop)(y:Option Z)(y':Option Z'):Prop:=match y,y' with
 |none,none=>True
 |some z,some z'=>Q z z'
 |_,_=>False
def Xr{E A B:Type}(R:E->E->Prop)(Q:A->B->Prop):Except E A->Except E B->Prop
 | .ok a,.ok b=>Q a b
 | .error e,.error e'=>R e e'
 |_,_=>False
def Lr{S R R':Type}(Q:R->R'->Prop):Lp S R->Lp S R'->Prop
 | .go s,.go s'=>s=s'
 | .brk s,.brk s'=>s=s'
 | .ret r,.ret r'=>Q r r'
 |_,_=>False
def Fl{A:Type}(R:A->A->Prop)(a b:List A):Prop:=a.length=b.length/\∀(i:Nat)(x y:A),a[i]?=some x->b[i]?=some y->R x y
def Rc(a b:Z2):Prop:=a.e=b.e
def RpV(a b:Z2×Q0):Prop:=a.1.e=b.1.e/\a.2=b.2
theorem Sv.ok{E A:Type}{R:E->E->Prop}{a:A}:Sv (Xr R Eq) (some (.ok a)) (some (.ok a)):=rfl
theorem Sv.go{S R R':Type}{Q:R->R'->Prop}{s:S}:Sv (Lr Q) (some (.go s)) (some (.go s)):=rfl
theorem Sv.brk{S R R':Type}{Q:R->R'->Prop}{s:S}:Sv (Lr Q) (some (.brk s)) (some (.brk s)):=rfl
theorem Sv.er{E A B:Type}{R:E->E->Prop}{Q:A->B->Prop}{e e':E}(h:R e e'):Sv (Xr R Q) (some (.error e)) (some (.error e')):=h
theorem Sv.rer{S E A B:Type}{R:E->E->Prop}{Q:A->B->Prop}{e e':E}(h:R e e'):Sv (Lr (S:=S) (Xr R Q)) (some (.ret (.error e))) (some (.ret (.error e'))):=h
theorem Sv.cond{Z Z':Type}{Q:Z->Z'->Prop}{c:Bool}{a b:Option Z}{a' b':Option Z'}(h:Sv Q a a')(k:Sv Q b b'):Sv Q (bif c then a else b) (bif c then a' else b'):=by cases c<;>assumption
theorem Sv.bindS{Z Z' B:Type}{Q:Z->Z'->Prop}{m:Option B}{f:B->Option Z}{f':B->Option Z'}(h:∀x,Sv Q (f x) (f' x)):Sv Q (m.bind f) (m.bind f'):=by
 cases m with
 |none=>exact trivial
 |some x=>exact h x
theorem Sv.bindN{Z Z' B:Type}{Q:Z->Z'->Prop}{m m':Option B}{f:B->Option Z}{f':B->Option Z'}(e:m=m')(h:∀x,Sv Q (f x) (f' x)):Sv Q (m.bind f) (m'.bind f'):=by subst e;exact Sv.bindS h
theorem Sv.bindF{Z Z' E A B:Type}{Q:Z->Z'->Prop}{R:E->E->Prop}{P:A->B->Prop}{y:Option (Except E A)}{y':Option (Except E B)}{f:A->Option Z}{f':B->Option Z'}{k:E->Option Z}{k':E->Option Z'}
 (h:Sv (Xr R P) y y') (hf:∀a b,P a b->Sv Q (f a) (f' b)) (hk:∀e e',R e e'->Sv Q (k e) (k' e')):Sv Q (y.bind fun z=>exC z f k) (y'.bind fun z=>exC z f' k'):=by
 cases y with
 |none=>
  cases y' with
  |none=>exact trivial
  |some z=>exact h.elim
 |some z=>
  cases y' with
  |none=>exact h.elim
  |some z'=>
   cases z with
   |ok a=>
    cases z' with
    |ok b=>exact hf a b h
    |error e=>exact(h:False).elim
   |error e=>
    cases z' with
    |ok b=>exact(h:False).elim
    |error e'=>exact hk e e' h
theorem Sv.bindE{Z Z' E A:Type}{Q:Z->Z'->Prop}{R:E->E->Prop}{y y':Option (Except E A)}{f:A->Option Z}{f':A->Option Z'}{k:E->Option Z}{k':E->Option Z'}
 (h:Sv (Xr R Eq) y y') (hf:∀a,Sv Q (f a) (f' a)) (hk:∀e e',R e e'->Sv Q (k e) (k' e')):Sv Q (y.bind fun z=>exC z f k) (y'.bind fun z=>exC z f' k'):=Sv.bindF h (fun a b e=>by subst e;exact hf a) hk
theorem Sv.idx{Z Z' A:Type}{Q:Z->Z'->Prop}{R:A->A->Prop}{l l':List A}{i:Int}{f:A->Option Z}{f':A->Option Z'}(h:Fl R l l')(k:∀x y,R x y->Sv Q (f x) (f' y)):Sv Q ((idx l i).bind f) ((idx l' i).bind f'):=by
 unfold Go.Proofs.YtjohcgibbiebkaaGreatDoor.idx
 split
 . cases e:l[i.toNat]?with
   |none=>
    have e2:=List.getElem?_eq_none_iff.1 e;rw[h.1]at e2;rw[List.getElem?_eq_none_iff.2 e2];exact trivial
   |some x=>
    cases e':l'[i.toNat]?with
    |none=>
     have:=(List.getElem?_eq_some_iff.1 e).1;have:=List.getElem?_eq_none_iff.1 e';rw[<-h.1]at this;omega
    |some y=>exact k x y (h.2 _ _ _ e e')
 . exact trivial
theorem Sv.loopM{S R R':Type}{P:R->R'->Prop}{body:S->Option (Lp S R)}{body':S->Option (Lp S R')}(h:∀s,Sv (Lr P) (body s) (body' s)):∀n s,Sv (Lr P) (loopM body n s) (loopM body' n s)
 |0,s=>trivial
 |n+1,s=>by
  unfold Go.Proofs.YtjohcgibbiebkaaGreatDoor.loopM
  have hs:=h s
  cases e:body s with
  |none=>
   rw[e]at hs
   cases e':body' s with
   |none=>exact trivial
   |some z'=>rw[e']at hs;exact hs.elim
  |some z=>
   rw[e]at hs
   cases e':body' s with
   |none=>rw[e']at hs;cases z<;>exact hs.elim
   |some z'=>
    rw[e']at hs
    cases z with
    |go t=>
     cases z' with
     |go t'=>
      have:t=t':=hs
      subst this
      exact Sv.loopM h n t
     |brk t'=>exact(hs:False).elim
     |ret r=>exact(hs:False).elim
    |brk t=>
     cases z' with
     |go t'=>exact(hs:False).elim
     |brk t'=>exact hs
     |ret r=>exact(hs:False).elim
    |ret r=>
     cases z' with
     |go t'=>exact(hs:False).elim
     |brk t'=>exact(hs:False).elim
     |ret r'=>exact hs
theorem Sv.loop{Z Z' S R R':Type}{Q:Z->Z'->Prop}{P:R->R'->Prop}{body:S->Option (Lp S R)}{body':S->Option (Lp S R')}{n:Nat}{s:S}{f:S->Option Z}{f':S->Option Z'}{g:R->Option Z}{g':R'->Option Z'}
 (h:∀s,Sv (Lr P) (body s) (body' s)) (hf:∀s,Sv Q (f s) (f' s)) (hg:∀r r',P r r'->Sv Q (g r) (g' r')):Sv Q ((Go.Proofs.YtjohcgibbiebkaaGreatDoor.loopM body n s).bind fun o=>o.thn f g) ((Go.Proofs.YtjohcgibbiebkaaGreatDoor.loopM body' n s).bind fun o=>o.thn f' g'):=by
 have hl:=Sv.loopM h n s;cases e:Go.Proofs.YtjohcgibbiebkaaGreatDoor.loopM body n s with
 |none=>
  rw[e]at hl;cases e':Go.Proofs.YtjohcgibbiebkaaGreatDoor.loopM body' n s with
  |none=>exact trivial
  |some z=>rw[e']at hl;exact hl.elim
 |some z=>
  rw[e]at hl;cases e':Go.Proofs.YtjohcgibbiebkaaGreatDoor.loopM body' n s with
  |none=>rw[e']at hl;cases z<;>exact hl.elim
  |some z'=>
   rw[e']at hl;cases z with
   |go t=>
    cases z' with
    |go t'=>exact trivial
    |brk t'=>exact(hl:False).elim
    |ret r=>exact(hl:False).elim
   |brk t=>
    cases z' with
    |go t'=>exact(hl:False).elim
    |brk t'=>
     have:t=t':=hl;subst this;exact hf t
    |ret r=>exact(hl:False).elim
   |ret r=>
    cases z' with
    |go t'=>exact(hl:False).elim
    |brk t'=>exact(hl:False).elim
    |ret r'=>exact hg r r' hl
theorem Sv.thn{Z Z' S R:Type}{Q:Z->Z'->Prop}{x:Lp S R}{f:S->Option Z}{f':S->Option Z'}{g:R->Option Z}{g':R->Option Z'}(h:∀s,Sv Q (f s) (f' s))(k:∀r,Sv Q (g r) (g' r)):Sv Q (x.thn f g) (x.thn f' g'):=by
 cases x with
 |go s=>exact trivial
 |brk s=>exact h s
 |ret r=>exact k r
inductive EqE:Z5->Z5->Prop
 |mk {a b:Z5} (k:a.Kind=b.Kind) (o:a.Op=b.Op) (n:a.Name=b.Name) (m:a.Num=b.Num) (t:a.Type_=b.Type_) (l:a.Kids.length=b.Kids.length) (ks:∀(i:Nat)(x y:Z5),a.Kids[i]?=some x->b.Kids[i]?=some y->EqE x y):EqE a b
theorem EqE.k{a b:Z5}(h:EqE a b):a.Kind=b.Kind:=match h with| .mk k _ _ _ _ _ _=>k
theorem EqE.o{a b:Z5}(h:EqE a b):a.Op=b.Op:=match h with| .mk _ o _ _ _ _ _=>o
theorem EqE.n{a b:Z5}(h:EqE a b):a.Name=b.Name:=match h with| .mk _ _ n _ _ _ _=>n
theorem EqE.m{a b:Z5}(h:EqE a b):a.Num=b.Num:=match h with| .mk _ _ _ m _ _ _=>m
theorem EqE.t{a b:Z5}(h:EqE a b):a.Type_=b.Type_:=match h with| .mk _ _ _ _ t _ _=>t
theorem EqE.l{a b:Z5}(h:EqE a b):a.Kids.length=b.Kids.length:=match h with| .mk _ _ _ _ _ l _=>l
theorem EqE.ks{a b:Z5}(h:EqE a b):Fl EqE a.Kids b.Kids:=match h with| .mk _ _ _ _ _ l ks=>⟨l,ks⟩
structure EqV(a b:J2):Prop where
 n:a.Name=b.Name
 t:a.Type_=b.Type_
 d:a.Dims=b.Dims
 br:a.Brace=b.Brace
 is:Fl EqE a.Init b.Init
theorem EqV.l{a b:J2}(h:EqV a b):a.Init.length=b.Init.length:=h.is.1
inductive EqS:V8->V8->Prop
 |mk {a b:V8} (k:a.Kind=b.Kind) (a1:Fl EqE a.A b.A) (b1:Fl EqE a.B b.B) (c1:Fl EqE a.C b.C) (v1:Fl EqV a.Var b.Var)
  (bl:a.Body.length=b.Body.length) (bs:∀(i:Nat)(x y:V8),a.Body[i]?=some x->b.Body[i]?=some y->EqS x y)
  (el:a.Else.length=b.Else.length) (es:∀(i:Nat)(x y:V8),a.Else[i]?=some x->b.Else[i]?=some y->EqS x y)
  (cl:a.Cases.length=b.Cases.length) (cd:∀(i:Nat)(x y:R5),a.Cases[i]?=some x->b.Cases[i]?=some y->x.Default=y.Default/\x.Num=y.Num/\x.Body.length=y.Body.length)
  (cs:∀(i:Nat)(x y:R5),a.Cases[i]?=some x->b.Cases[i]?=some y->∀(j:Nat)(s t:V8),x.Body[j]?=some s->y.Body[j]?=some t->EqS s t):EqS a b
structure EqC(a b:R5):Prop where
 d:a.Default=b.Default
 n:a.Num=b.Num
 bs:Fl EqS a.Body b.Body
theorem EqS.k{a b:V8}(h:EqS a b):a.Kind=b.Kind:=match h with| .mk k _ _ _ _ _ _ _ _ _ _ _=>k
theorem EqS.a1{a b:V8}(h:EqS a b):Fl EqE a.A b.A:=match h with| .mk _ a _ _ _ _ _ _ _ _ _ _=>a
theorem EqS.b1{a b:V8}(h:EqS a b):Fl EqE a.B b.B:=match h with| .mk _ _ b _ _ _ _ _ _ _ _ _=>b
theorem EqS.c1{a b:V8}(h:EqS a b):Fl EqE a.C b.C:=match h with| .mk _ _ _ c _ _ _ _ _ _ _ _=>c
theorem EqS.v1{a b:V8}(h:EqS a b):Fl EqV a.Var b.Var:=match h with| .mk _ _ _ _ v _ _ _ _ _ _ _=>v
theorem EqS.s1{a b:V8}(h:EqS a b):Fl EqS a.Body b.Body:=match h with| .mk _ _ _ _ _ l s _ _ _ _ _=>⟨l,s⟩
theorem EqS.e1{a b:V8}(h:EqS a b):Fl EqS a.Else b.Else:=match h with| .mk _ _ _ _ _ _ _ l s _ _ _=>⟨l,s⟩
theorem EqS.d1{a b:V8}(h:EqS a b):Fl EqC a.Cases b.Cases:=match h with| .mk _ _ _ _ _ _ _ _ _ l d s=>⟨l,fun i x y hx hy=>⟨(d i x y hx hy).1,(d i x y hx hy).2.1,(d i x y hx hy).2.2,s i x y hx hy⟩⟩
structure EqT(a b:S8):Prop where
 n:a.Name=b.Name
 f:Fl EqV a.Fields b.Fields
structure EqF(a b:L6):Prop where
 r:a.Ret=b.Ret
 n:a.Name=b.Name
 p:Fl EqV a.Params b.Params
 b:Fl EqS a.Body b.Body
structure EqP(a b:U3):Prop where
 s:Fl EqT a.Structs b.Structs
 g:Fl EqV a.Globals b.Globals
 f:Fl EqF a.Funcs b.Funcs
theorem fail_v{p q:Pos}{k:Int}:Sv (Xr Rc Eq) (X2 p k) (X2 q k):=rfl
theorem must_v{p q:Pos}{k:Int}:Sv (Xr Rc Eq) (S0 p k) (S0 q k):=by
 unfold S0;cases(k !=0)<;>exact rfl
theorem null_e{a b:Z5}(h:EqE a b):Q3m a=Q3m b:=by
 unfold Q3m;rw[h.k,h.m]
class Vc(P:Prop):Prop where
 out:P
theorem svq{A:Prop}(h:A:=by
 repeat'(first
  |exact Sv.ok
  |exact Sv.go
  |exact Sv.brk
  |exact trivial
  |exact Sv.er he
  |exact Sv.er ⟨he,rfl⟩
  |exact Sv.er ⟨he.1,he.2⟩
  |exact Sv.er ⟨he.1,by rw[he.2]⟩
  |exact Sv.rer ⟨he,rfl⟩
  |exact Sv.rer ⟨he.1,he.2⟩
  |exact Sv.rer ⟨he.1,by rw[he.2]⟩
  |with_reducible refine Sv.cond ?_ ?_
  |(refine Sv.loop (P:=Xr RpV Eq) ?_ ?_ (fun r r' hr=>by first|exact hr)<;>(simp only[Prod.forall];intros;dsimp only))
  |(refine Sv.loop (P:=Xr RpV Eq) ?_ ?_ (fun r r' hr=>by first|exact hr)<;>intro s)
  |with_reducible refine Sv.bindE (by first|exact fail_v|exact must_v) (fun a=>?_) (fun e e' he=>?_)
  |with_reducible refine Sv.bindE (R:=RpV) Vc.out (fun a=>?_) (fun e e' he=>?_)
  |with_reducible refine Sv.bindE (R:=Rc) Vc.out (fun a=>?_) (fun e e' he=>?_)
  |(refine Sv.bindF (P:=Fl EqE) (R:=Rc) Vc.out (fun a b hab=>?_) (fun e e' he=>?_);simp only[hab.1])
  |(refine Sv.idx (R:=EqT) (by assumption) ?_;intro x y hx;(try simp only[EqT.n hx]);have hxf:=EqT.f hx;have hxl:=hxf.1;(try simp only[hxl]))
  |(refine Sv.idx (R:=EqF) (by assumption) ?_;intro x y hx;have hxi:=Vc.mk hx)
  |(refine Sv.idx (R:=EqS) (by assumption) ?_;intro x y hx;have hxi:=Vc.mk hx)
  |(refine Sv.idx (R:=EqC) (by assumption) ?_;intro x y hx;have hxi:=Vc.mk (EqC.bs hx);simp only[EqC.d hx,EqC.n hx])
  |(refine Sv.idx (R:=EqE) (by first|assumption|exact EqE.ks (by assumption)) ?_;intro x y hx;have hxi:=Vc.mk hx;(try simp only[EqE.k hx,EqE.o hx,EqE.n hx,EqE.m hx,EqE.t hx,EqE.l hx]))
  |(refine Sv.idx (R:=EqV) (by assumption) ?_;intro x y hx;have hxi:=Vc.mk hx;(try simp only[EqV.n hx,EqV.t hx,EqV.d hx,EqV.br hx,EqV.l hx]))
  |exact EqV.is (by assumption)
  |exact⟨rfl,fun i x y h=>by cases h⟩
  |with_reducible refine Sv.bindN (null_e (by assumption)) (fun x=>?_)
  |with_reducible refine Sv.bindS (fun x=>?_)
  |refine Sv.thn (fun s=>?_) (fun r=>?_))):A:=h
instance typeOf_v{c:Q0}{p q:Pos}{t:K6}:Vc (Sv (Xr RpV Eq) (F2 c p t) (F2 c q t)):=⟨by
 unfold F2
 dsimp only[jn]
 exact svq⟩
instance dimsOf_v{c:Q0}{a b:J2}[i:Vc (EqV a b)]:Vc (Sv (Xr RpV Eq) (N5 c a) (N5 c b)):=⟨by
 have h:=i.out
 unfold N5
 simp only[EqV.t h,EqV.d h]
 exact svq⟩
instance structs_v{c:Q0}{a b:List S8}[i:Vc (Fl EqT a b)]:Vc (Sv (Xr RpV Eq) (I2 c a) (I2 c b)):=⟨by
 have h:=i.out
 unfold I2
 simp only[h.1]
 exact svq⟩
instance varOf_v{c:Q0}{a b:J2}[i:Vc (EqV a b)]:Vc (Sv (Xr RpV Eq) (L0 c a) (L0 c b)):=⟨by
 have h:=i.out
 unfold L0
 exact svq⟩
instance named_v{c:Q0}{p q:Pos}{n:Aa}:Vc (Sv (Xr RpV Eq) (W5 c p n) (W5 c q n)):=⟨by
 unfold W5
 exact svq⟩
instance named2_v{c:Q0}{p q:Pos}{n:Aa}:Vc (Sv (Xr RpV Eq) (P4 c p n) (P4 c q n)):=⟨by
 unfold P4
 exact svq⟩
instance inits_v{c:Q0}{a b:J2}[i:Vc (EqV a b)]{k:Int}:Vc (Sv (Xr Rc (Fl EqE)) (L3 c a k) (L3 c b k)):=⟨by
 have h:=i.out
 unfold L3
 simp only[EqV.br h,EqV.l h]
 exact svq⟩
instance name_v{c:Q0}{a b:Z5}[i:Vc (EqE a b)]:Vc (Sv (Xr RpV Eq) (Q0h c a) (Q0h c b)):=⟨by
 have h:=i.out
 unfold Q0h
 dsimp only[jn]
 simp only[EqE.n h]
 exact svq⟩
instance ptrTo_v{c:Q0}{p q:Pos}{k:Int}:Vc (Sv (Xr RpV Eq) (L1 c p k) (L1 c q k)):=⟨by
 unfold L1
 exact svq⟩
instance equal_v{c:Q0}{a b:Z5}[i:Vc (EqE a b)]{u v:Y0}:Vc (Sv (Xr Rc Eq) (W6 c a u v) (W6 c b u v)):=⟨by
 have h:=i.out
 have hks:=h.ks
 unfold W6
 dsimp only[jn]
 simp only[EqE.o h]
 exact svq⟩
instance moved_v{c:Q0}{p q:Pos}{u:Y0}{t:Y9}{k:Int}:Vc (Sv (Xr Rc Eq) (L2 c p u t k) (L2 c q u t k)):=⟨by
 unfold L2
 exact svq⟩
instance wanted_v{c:Q0}{a b:Z5}[i:Vc (EqE a b)]{u:Y0}{k:Int}:Vc (Sv (Xr Rc Eq) (E4 c a u k) (E4 c b u k)):=⟨by
 have h:=i.out
 unfold E4
 exact svq⟩
instance handed_v{c:Q0}{a b:Z5}[i:Vc (EqE a b)]{u:Y0}{k:Int}:Vc (Sv (Xr Rc Eq) (N3 c a u k) (N3 c b u k)):=⟨by
 have h:=i.out
 unfold N3
 exact svq⟩
instance told_v{c:Q0}{p q:Pos}{u:Y0}:Vc (Sv (Xr RpV Eq) (H0 c p u) (H0 c q u)):=⟨by
 unfold H0
 dsimp only[jn]
 exact svq⟩
structure H3(G:Q2l):Prop where
 asked:∀c a b,EqE a b->Sv (Xr RpV Eq) (G.V3 c a) (G.V3 c b)
 number:∀c a b,EqE a b->Sv (Xr RpV Eq) (G.X7 c a) (G.X7 c b)
 unary:∀c a b,EqE a b->Sv (Xr RpV Eq) (G.F1 c a) (G.F1 c b)
 both:∀c k a b,EqE a b->Sv (Xr RpV Eq) (G.J5 c k a) (G.J5 c k b)
 binary:∀c a b,EqE a b->Sv (Xr RpV Eq) (G.G5 c a) (G.G5 c b)
 lying:∀c a b,EqE a b->Sv (Xr RpV Eq) (G.G3 c a) (G.G3 c b)
 assign:∀c a b,EqE a b->Sv (Xr RpV Eq) (G.G6 c a) (G.G6 c b)
 cond:∀c a b,EqE a b->Sv (Xr RpV Eq) (G.F9 c a) (G.F9 c b)
 call:∀c a b,EqE a b->Sv (Xr RpV Eq) (G.E0 c a) (G.E0 c b)
 member:∀c a b,EqE a b->Sv (Xr RpV Eq) (G.G4 c a) (G.G4 c b)
 step:∀c a b,EqE a b->Sv (Xr RpV Eq) (G.F8 c a) (G.F8 c b)
 expr:∀c a b,EqE a b->Sv (Xr RpV Eq) (G.V5 c a) (G.V5 c b)
 value:∀c a b,EqE a b->Sv (Xr RpV Eq) (G.Z3 c a) (G.Z3 c b)
instance asked_i{G:Q2l}[I:Vc (H3 G)]{c:Q0}{a b:Z5}[i:Vc (EqE a b)]:Vc (Sv (Xr RpV Eq) (G.V3 c a) (G.V3 c b)):=⟨I.out.asked _ _ _ i.out⟩
instance number_i{G:Q2l}[I:Vc (H3 G)]{c:Q0}{a b:Z5}[i:Vc (EqE a b)]:Vc (Sv (Xr RpV Eq) (G.X7 c a) (G.X7 c b)):=⟨I.out.number _ _ _ i.out⟩
instance unary_i{G:Q2l}[I:Vc (H3 G)]{c:Q0}{a b:Z5}[i:Vc (EqE a b)]:Vc (Sv (Xr RpV Eq) (G.F1 c a) (G.F1 c b)):=⟨I.out.unary _ _ _ i.out⟩
instance both_i{G:Q2l}[I:Vc (H3 G)]{c:Q0}{k:Int}{a b:Z5}[i:Vc (EqE a b)]:Vc (Sv (Xr RpV Eq) (G.J5 c k a) (G.J5 c k b)):=⟨I.out.both _ _ _ _ i.out⟩
instance binary_i{G:Q2l}[I:Vc (H3 G)]{c:Q0}{a b:Z5}[i:Vc (EqE a b)]:Vc (Sv (Xr RpV Eq) (G.G5 c a) (G.G5 c b)):=⟨I.out.binary _ _ _ i.out⟩
instance lying_i{G:Q2l}[I:Vc (H3 G)]{c:Q0}{a b:Z5}[i:Vc (EqE a b)]:Vc (Sv (Xr RpV Eq) (G.G3 c a) (G.G3 c b)):=⟨I.out.lying _ _ _ i.out⟩
instance assign_i{G:Q2l}[I:Vc (H3 G)]{c:Q0}{a b:Z5}[i:Vc (EqE a b)]:Vc (Sv (Xr RpV Eq) (G.G6 c a) (G.G6 c b)):=⟨I.out.assign _ _ _ i.out⟩
instance cond_i{G:Q2l}[I:Vc (H3 G)]{c:Q0}{a b:Z5}[i:Vc (EqE a b)]:Vc (Sv (Xr RpV Eq) (G.F9 c a) (G.F9 c b)):=⟨I.out.cond _ _ _ i.out⟩
instance call_i{G:Q2l}[I:Vc (H3 G)]{c:Q0}{a b:Z5}[i:Vc (EqE a b)]:Vc (Sv (Xr RpV Eq) (G.E0 c a) (G.E0 c b)):=⟨I.out.call _ _ _ i.out⟩
instance member_i{G:Q2l}[I:Vc (H3 G)]{c:Q0}{a b:Z5}[i:Vc (EqE a b)]:Vc (Sv (Xr RpV Eq) (G.G4 c a) (G.G4 c b)):=⟨I.out.member _ _ _ i.out⟩
instance step_i{G:Q2l}[I:Vc (H3 G)]{c:Q0}{a b:Z5}[i:Vc (EqE a b)]:Vc (Sv (Xr RpV Eq) (G.F8 c a) (G.F8 c b)):=⟨I.out.step _ _ _ i.out⟩
instance expr_i{G:Q2l}[I:Vc (H3 G)]{c:Q0}{a b:Z5}[i:Vc (EqE a b)]:Vc (Sv (Xr RpV Eq) (G.V5 c a) (G.V5 c b)):=⟨I.out.expr _ _ _ i.out⟩
instance value_i{G:Q2l}[I:Vc (H3 G)]{c:Q0}{a b:Z5}[i:Vc (EqE a b)]:Vc (Sv (Xr RpV Eq) (G.Z3 c a) (G.Z3 c b)):=⟨I.out.value _ _ _ i.out⟩
instance asked_h{G:Q2l}[I:Vc (H3 G)]{c:Q0}{a b:Z5}[i:Vc (EqE a b)]:Vc (Sv (Xr RpV Eq) (I5 G c a) (I5 G c b)):=⟨by
 have h:=i.out
 have hks:=h.ks
 unfold I5
 try dsimp only[jn]
 try simp only[EqE.k h,EqE.o h,EqE.n h,EqE.m h,EqE.t h,EqE.l h]
 exact svq⟩
instance number_h{G:Q2l}[I:Vc (H3 G)]{c:Q0}{a b:Z5}[i:Vc (EqE a b)]:Vc (Sv (Xr RpV Eq) (A1 G c a) (A1 G c b)):=⟨by
 have h:=i.out
 have hks:=h.ks
 unfold A1
 try dsimp only[jn]
 try simp only[EqE.k h,EqE.o h,EqE.n h,EqE.m h,EqE.t h,EqE.l h]
 exact svq⟩
instance unary_h{G:Q2l}[I:Vc (H3 G)]{c:Q0}{a b:Z5}[i:Vc (EqE a b)]:Vc (Sv (Xr RpV Eq) (I1 G c a) (I1 G c b)):=⟨by
 have h:=i.out
 have hks:=h.ks
 unfold I1
 try dsimp only[jn]
 try simp only[EqE.o h]
 exact svq⟩
instance both_h{G:Q2l}[I:Vc (H3 G)]{c:Q0}{k:Int}{a b:Z5}[i:Vc (EqE a b)]:Vc (Sv (Xr RpV Eq) (R1 G c k a) (R1 G c k b)):=⟨by
 have h:=i.out
 have hks:=h.ks
 unfold R1
 try dsimp only[jn]
 try simp only[EqE.k h,EqE.o h,EqE.n h,EqE.m h,EqE.t h,EqE.l h]
 exact svq⟩
instance binary_h{G:Q2l}[I:Vc (H3 G)]{c:Q0}{a b:Z5}[i:Vc (EqE a b)]:Vc (Sv (Xr RpV Eq) (A5 G c a) (A5 G c b)):=⟨by
 have h:=i.out
 have hks:=h.ks
 unfold A5
 try dsimp only[jn]
 try simp only[EqE.o h]
 exact svq⟩
instance lying_h{G:Q2l}[I:Vc (H3 G)]{c:Q0}{a b:Z5}[i:Vc (EqE a b)]:Vc (Sv (Xr RpV Eq) (I3 G c a) (I3 G c b)):=⟨by
 have h:=i.out
 have hks:=h.ks
 unfold I3
 try dsimp only[jn]
 try simp only[EqE.k h,EqE.o h,EqE.n h,EqE.m h,EqE.t h,EqE.l h]
 exact svq⟩
instance assign_h{G:Q2l}[I:Vc (H3 G)]{c:Q0}{a b:Z5}[i:Vc (EqE a b)]:Vc (Sv (Xr RpV Eq) (A6 G c a) (A6 G c b)):=⟨by
 have h:=i.out
 have hks:=h.ks
 unfold A6
 try dsimp only[jn]
 try simp only[EqE.o h]
 exact svq⟩
instance cond_h{G:Q2l}[I:Vc (H3 G)]{c:Q0}{a b:Z5}[i:Vc (EqE a b)]:Vc (Sv (Xr RpV Eq) (O8 G c a) (O8 G c b)):=⟨by
 have h:=i.out
 have hks:=h.ks
 unfold O8
 try dsimp only[jn]
 try simp only[EqE.k h,EqE.o h,EqE.n h,EqE.m h,EqE.t h,EqE.l h]
 exact svq⟩
instance call_h{G:Q2l}[I:Vc (H3 G)]{c:Q0}{a b:Z5}[i:Vc (EqE a b)]:Vc (Sv (Xr RpV Eq) (O9 G c a) (O9 G c b)):=⟨by
 have h:=i.out
 have hks:=h.ks
 unfold O9
 try dsimp only[jn]
 try simp only[EqE.n h,EqE.l h]
 exact svq⟩
instance member_h{G:Q2l}[I:Vc (H3 G)]{c:Q0}{a b:Z5}[i:Vc (EqE a b)]:Vc (Sv (Xr RpV Eq) (A2 G c a) (A2 G c b)):=⟨by
 have h:=i.out
 have hks:=h.ks
 unfold A2
 try dsimp only[jn]
 try simp only[EqE.o h,EqE.n h]
 exact svq⟩
instance step_h{G:Q2l}[I:Vc (H3 G)]{c:Q0}{a b:Z5}[i:Vc (EqE a b)]:Vc (Sv (Xr RpV Eq) (O4 G c a) (O4 G c b)):=⟨by
 have h:=i.out
 have hks:=h.ks
 unfold O4
 try dsimp only[jn]
 try simp only[EqE.k h,EqE.o h]
 exact svq⟩
instance expr_h{G:Q2l}[I:Vc (H3 G)]{c:Q0}{a b:Z5}[i:Vc (EqE a b)]:Vc (Sv (Xr RpV Eq) (O7 G c a) (O7 G c b)):=⟨by
 have h:=i.out
 have hks:=h.ks
 unfold O7
 try dsimp only[jn]
 try simp only[EqE.k h,EqE.m h,EqE.t h]
 exact svq⟩
instance value_h{G:Q2l}[I:Vc (H3 G)]{c:Q0}{a b:Z5}[i:Vc (EqE a b)]:Vc (Sv (Xr RpV Eq) (I0 G c a) (I0 G c b)):=⟨by
 have h:=i.out
 have hks:=h.ks
 unfold I0
 try dsimp only[jn]
 try simp only[EqE.k h,EqE.o h,EqE.n h,EqE.m h,EqE.t h,EqE.l h]
 exact svq⟩
theorem h3:∀n,H3 (Q0l n)
 |0=>⟨fun _ _ _ _=>trivial,fun _ _ _ _=>trivial,fun _ _ _ _=>trivial,fun _ _ _ _ _=>trivial,fun _ _ _ _=>trivial,fun _ _ _ _=>trivial,fun _ _ _ _=>trivial,fun _ _ _ _=>trivial,fun _ _ _ _=>trivial,fun _ _ _ _=>trivial,fun _ _ _ _=>trivial,fun _ _ _ _=>trivial,fun _ _ _ _=>trivial⟩
 |n+1=>⟨fun _ _ _ h=>(@asked_h _ ⟨h3 n⟩ _ _ _ ⟨h⟩).out,fun _ _ _ h=>(@number_h _ ⟨h3 n⟩ _ _ _ ⟨h⟩).out,fun _ _ _ h=>(@unary_h _ ⟨h3 n⟩ _ _ _ ⟨h⟩).out,fun _ _ _ _ h=>(@both_h _ ⟨h3 n⟩ _ _ _ _ ⟨h⟩).out,fun _ _ _ h=>(@binary_h _ ⟨h3 n⟩ _ _ _ ⟨h⟩).out,fun _ _ _ h=>(@lying_h _ ⟨h3 n⟩ _ _ _ ⟨h⟩).out,fun _ _ _ h=>(@assign_h _ ⟨h3 n⟩ _ _ _ ⟨h⟩).out,fun _ _ _ h=>(@cond_h _ ⟨h3 n⟩ _ _ _ ⟨h⟩).out,fun _ _ _ h=>(@call_h _ ⟨h3 n⟩ _ _ _ ⟨h⟩).out,fun _ _ _ h=>(@member_h _ ⟨h3 n⟩ _ _ _ ⟨h⟩).out,fun _ _ _ h=>(@step_h _ ⟨h3 n⟩ _ _ _ ⟨h⟩).out,fun _ _ _ h=>(@expr_h _ ⟨h3 n⟩ _ _ _ ⟨h⟩).out,fun _ _ _ h=>(@value_h _ ⟨h3 n⟩ _ _ _ ⟨h⟩).out⟩
instance number_v{c:Q0}{a b:Z5}[i:Vc (EqE a b)]:Vc (Sv (Xr RpV Eq) (X7 c a) (X7 c b)):=⟨(h3 NN).number _ _ _ i.out⟩
instance value_v{c:Q0}{a b:Z5}[i:Vc (EqE a b)]:Vc (Sv (Xr RpV Eq) (Z3 c a) (Z3 c b)):=⟨(h3 NN).value _ _ _ i.out⟩
instance expr_v{c:Q0}{a b:Z5}[i:Vc (EqE a b)]:Vc (Sv (Xr RpV Eq) (V5 c a) (V5 c b)):=⟨(h3 NN).expr _ _ _ i.out⟩
instance asked_v{c:Q0}{a b:Z5}[i:Vc (EqE a b)]:Vc (Sv (Xr RpV Eq) (V3 c a) (V3 c b)):=⟨(h3 NN).asked _ _ _ i.out⟩
instance data_v{c:Q0}{a b:J2}[i:Vc (EqV a b)]{k:Int}:Vc (Sv (Xr RpV Eq) (Q0i c a k) (Q0i c b k)):=⟨by
 have h:=i.out
 unfold Q0i
 try dsimp only[jn]
 try simp only[EqV.n h,EqV.t h,EqV.d h,EqV.br h,EqV.l h]
 exact svq⟩
instance global_v{c:Q0}{a b:J2}[i:Vc (EqV a b)]:Vc (Sv (Xr RpV Eq) (O6 c a) (O6 c b)):=⟨by
 have h:=i.out
 unfold O6
 try dsimp only[jn]
 try simp only[EqV.n h]
 exact svq⟩
instance header_v{c:Q0}{a b:L6}[i:Vc (EqF a b)]:Vc (Sv (Xr RpV Eq) (O5 c a) (O5 c b)):=⟨by
 have h:=i.out
 have hp:=h.p
 have hl:=hp.1
 unfold O5
 try dsimp only[jn]
 simp only[h.r,h.n,hl]
 exact svq⟩
instance main_v{c:Q0}{a b:List L6}[i:Vc (Fl EqF a b)]:Vc (Sv (Xr RpV Eq) (S4 c a) (S4 c b)):=⟨by
 have h:=i.out
 unfold S4
 exact svq⟩
instance declare_v{c:Q0}{p q:Pos}{n:Aa}{k:Int}:Vc (Sv (Xr RpV Eq) (M4 c p n k) (M4 c q n k)):=⟨by
 unfold M4
 exact svq⟩
instance alone_v{c:Q0}{a b:Z5}[i:Vc (EqE a b)]:Vc (Sv (Xr RpV Eq) (M7 c a) (M7 c b)):=⟨by
 have h:=i.out
 unfold M7
 try dsimp only[jn]
 exact svq⟩
instance variable_v{c:Q0}{a b:J2}[i:Vc (EqV a b)]:Vc (Sv (Xr RpV Eq) (A0 c a) (A0 c b)):=⟨by
 have h:=i.out
 unfold A0
 try dsimp only[jn]
 try simp only[EqV.n h]
 exact svq⟩
instance one_v{c:Q0}{k:Int}{a b:Z5}[i:Vc (EqE a b)]:Vc (Sv (Xr RpV Eq) (L7 c k a) (L7 c k b)):=⟨by
 have h:=i.out
 unfold L7
 exact svq⟩
instance answer_v{c:Q0}{a b:V8}[i:Vc (EqS a b)]:Vc (Sv (Xr RpV Eq) (R3 c a) (R3 c b)):=⟨by
 have h:=i.out
 have ha:=h.a1
 have hb:=h.b1
 have hc:=h.c1
 have hv:=h.v1
 have hs:=h.s1
 have he1:=h.e1
 have hsi:=Vc.mk hs
 have hei:=Vc.mk he1
 have hd:=h.d1
 unfold R3
 try simp only[ha.1]
 exact svq⟩
structure H6(G:Z2z):Prop where
 block:∀c a b,Fl EqS a b->Sv (Xr RpV Eq) (G.V1 c a) (G.V1 c b)
 looped:∀c a b,Fl EqS a b->Sv (Xr RpV Eq) (G.K2 c a) (G.K2 c b)
 around:∀c a b,EqS a b->Sv (Xr RpV Eq) (G.F4 c a) (G.F4 c b)
 choose:∀c a b,EqS a b->Sv (Xr RpV Eq) (G.F3 c a) (G.F3 c b)
 stmt:∀c a b,EqS a b->Sv (Xr RpV Eq) (G.D6 c a) (G.D6 c b)
 acts:∀c a b,Fl EqS a b->Sv (Xr RpV Eq) (G.J0 c a) (G.J0 c b)
instance block_i{G:Z2z}[I:Vc (H6 G)]{c:Q0}{a b:List V8}[i:Vc (Fl EqS a b)]:Vc (Sv (Xr RpV Eq) (G.V1 c a) (G.V1 c b)):=⟨I.out.block _ _ _ i.out⟩
instance looped_i{G:Z2z}[I:Vc (H6 G)]{c:Q0}{a b:List V8}[i:Vc (Fl EqS a b)]:Vc (Sv (Xr RpV Eq) (G.K2 c a) (G.K2 c b)):=⟨I.out.looped _ _ _ i.out⟩
instance around_i{G:Z2z}[I:Vc (H6 G)]{c:Q0}{a b:V8}[i:Vc (EqS a b)]:Vc (Sv (Xr RpV Eq) (G.F4 c a) (G.F4 c b)):=⟨I.out.around _ _ _ i.out⟩
instance choose_i{G:Z2z}[I:Vc (H6 G)]{c:Q0}{a b:V8}[i:Vc (EqS a b)]:Vc (Sv (Xr RpV Eq) (G.F3 c a) (G.F3 c b)):=⟨I.out.choose _ _ _ i.out⟩
instance stmt_i{G:Z2z}[I:Vc (H6 G)]{c:Q0}{a b:V8}[i:Vc (EqS a b)]:Vc (Sv (Xr RpV Eq) (G.D6 c a) (G.D6 c b)):=⟨I.out.stmt _ _ _ i.out⟩
instance acts_i{G:Z2z}[I:Vc (H6 G)]{c:Q0}{a b:List V8}[i:Vc (Fl EqS a b)]:Vc (Sv (Xr RpV Eq) (G.J0 c a) (G.J0 c b)):=⟨I.out.acts _ _ _ i.out⟩
instance block_h{G:Z2z}[I:Vc (H6 G)]{c:Q0}{a b:List V8}[i:Vc (Fl EqS a b)]:Vc (Sv (Xr RpV Eq) (I4 G c a) (I4 G c b)):=⟨by
 have h:=i.out
 unfold I4
 try dsimp only[jn]
 try simp only[h.1]
 exact svq⟩
instance looped_h{G:Z2z}[I:Vc (H6 G)]{c:Q0}{a b:List V8}[i:Vc (Fl EqS a b)]:Vc (Sv (Xr RpV Eq) (A3 G c a) (A3 G c b)):=⟨by
 have h:=i.out
 unfold A3
 try dsimp only[jn]
 try simp only[h.1]
 exact svq⟩
instance around_h{G:Z2z}[I:Vc (H6 G)]{c:Q0}{a b:V8}[i:Vc (EqS a b)]:Vc (Sv (Xr RpV Eq) (A7 G c a) (A7 G c b)):=⟨by
 have h:=i.out
 have ha:=h.a1
 have hb:=h.b1
 have hc:=h.c1
 have hv:=h.v1
 have hs:=h.s1
 have he1:=h.e1
 have hsi:=Vc.mk hs
 have hei:=Vc.mk he1
 have hd:=h.d1
 unfold A7
 try dsimp only[jn]
 try simp only[ha.1,hb.1,hc.1]
 exact svq⟩
instance choose_h{G:Z2z}[I:Vc (H6 G)]{c:Q0}{a b:V8}[i:Vc (EqS a b)]:Vc (Sv (Xr RpV Eq) (A4 G c a) (A4 G c b)):=⟨by
 have h:=i.out
 have ha:=h.a1
 have hb:=h.b1
 have hc:=h.c1
 have hv:=h.v1
 have hs:=h.s1
 have he1:=h.e1
 have hsi:=Vc.mk hs
 have hei:=Vc.mk he1
 have hd:=h.d1
 unfold A4
 try dsimp only[jn]
 try simp only[hd.1]
 exact svq⟩
instance stmt_h{G:Z2z}[I:Vc (H6 G)]{c:Q0}{a b:V8}[i:Vc (EqS a b)]:Vc (Sv (Xr RpV Eq) (O2 G c a) (O2 G c b)):=⟨by
 have h:=i.out
 have ha:=h.a1
 have hb:=h.b1
 have hc:=h.c1
 have hv:=h.v1
 have hs:=h.s1
 have he1:=h.e1
 have hsi:=Vc.mk hs
 have hei:=Vc.mk he1
 have hd:=h.d1
 unfold O2
 try dsimp only[jn]
 try simp only[h.k]
 exact svq⟩
instance acts_h{G:Z2z}[I:Vc (H6 G)]{c:Q0}{a b:List V8}[i:Vc (Fl EqS a b)]:Vc (Sv (Xr RpV Eq) (R4 G c a) (R4 G c b)):=⟨by
 have h:=i.out
 unfold R4
 try dsimp only[jn]
 try simp only[h.1]
 exact svq⟩
theorem h6:∀n,H6 (Q9m n)
 |0=>⟨fun _ _ _ _=>trivial,fun _ _ _ _=>trivial,fun _ _ _ _=>trivial,fun _ _ _ _=>trivial,fun _ _ _ _=>trivial,fun _ _ _ _=>trivial⟩
 |n+1=>⟨fun _ _ _ h=>(@block_h _ ⟨h6 n⟩ _ _ _ ⟨h⟩).out,fun _ _ _ h=>(@looped_h _ ⟨h6 n⟩ _ _ _ ⟨h⟩).out,fun _ _ _ h=>(@around_h _ ⟨h6 n⟩ _ _ _ ⟨h⟩).out,fun _ _ _ h=>(@choose_h _ ⟨h6 n⟩ _ _ _ ⟨h⟩).out,fun _ _ _ h=>(@stmt_h _ ⟨h6 n⟩ _ _ _ ⟨h⟩).out,fun _ _ _ h=>(@acts_h _ ⟨h6 n⟩ _ _ _ ⟨h⟩).out⟩
instance acts_v{c:Q0}{a b:L6}[i:Vc (EqF a b)]:Vc (Sv (Xr RpV Eq) (J0 c a.Body) (J0 c b.Body)):=⟨(h6 NN).acts _ _ _ i.out.b⟩
instance body_v{c:Q0}{k:Int}{a b:L6}[i:Vc (EqF a b)]:Vc (Sv (Xr RpV Eq) (Q0j c k a) (Q0j c k b)):=⟨by
 have h:=i.out
 have hp:=h.p
 have hl:=hp.1
 unfold Q0j
 simp only[hl]
 exact svq⟩
instance try_v{c:Q0}{a b:U3}[i:Vc (EqP a b)]:Vc (Sv (Xr RpV Eq) (Q0x c a) (Q0x c b)):=⟨by
 have h:=i.out
 have hs:=h.s
 have hg:=h.g
 have hf:=h.f
 have hsi:=Vc.mk hs
 have hfi:=Vc.mk hf
 unfold Q0x
 simp only[hg.1,hf.1]
 exact svq⟩
theorem Check_v{a b:U3}(h:EqP a b):Sv (fun x y:Z4a×Pos×Int=>x.1=y.1/\x.2.2=y.2.2) (Q2v a) (Q2v b):=by
 unfold Q2v;refine Sv.bindS fun x=>?_;refine Sv.bindE (@try_v _ _ _ ⟨h⟩).out (fun y=>⟨rfl,rfl⟩) (fun e e' he=>⟨rfl,he.1⟩)
def Z3w{α:Type}(l:List α)(p:α->Bool):Int:=match l.findIdx? p with
 |some k=>(k:Int)
 |none=> -1
theorem X5z{α:Type}(l:List α)(p:α->Bool): -1<=Z3w l p/\Z3w l p<l.length:=by
 unfold Z3w;cases h:l.findIdx? p with
 |none=>dsimp only;omega
 |some k=>
  obtain⟨hk,_⟩:=List.findIdx?_eq_some_iff_getElem.1 h
  dsimp only
  omega
theorem X2x{α:Type}{l:List α}{p:α->Bool}(h:0<=Z3w l p):∃x,idx l (Z3w l p)=some x/\p x=true:=by
 unfold Z3w at*;cases hf:l.findIdx? p with
 |none=>rw[hf]at h;dsimp only at h;omega
 |some k=>
  obtain⟨hk,hp,_⟩:=List.findIdx?_eq_some_iff_getElem.1 hf;exact⟨l[k],E8 hk,hp⟩
theorem Z6x{α:Type}{l:List α}{p:α->Bool}{body:Int->Option (Lp Int Int)}(hl:l.length<=1000000)
 (hs:∀k (h:k<l.length),body (k:Int)=some (bif p l[k]then .ret (k:Int)else .go (qJ .i64 ((k:Int)+1)))) (he:body (l.length:Int)=some (.brk (l.length:Int))):
 ((loopM body NN 0).bind fun o=>o.thn (fun _=>some (-1:Int)) (fun r=>some r))=some (Z3w l p):=by
 refine Y9m l p (fun k=>(k:Int)) (by omega) hs he ?_;unfold Z3w;cases l.findIdx? p<;>rfl
theorem if1{l:List K3}(hl:l.length<=1000000)(n:Aa):Q6s l n=some (Z3w l fun k=>k.Type_.Kind==5&&decide (k.Type_.Name=n)):=by
 unfold Q6s;refine Z6x hl (fun k hk=>?_) (by rw[c0 (dge _)]);rw[c1 (dlt hk),E8 hk,qV];unfold Q7u;rw[qV];cases(l[k].Type_.Kind==5&&decide (l[k].Type_.Name=n))<;>rfl
theorem if2{l:List K3}(hl:l.length<=1000000)(n:K3):Q4i l n=some (Z3w l fun k=>((k.Type_.Kind==n.Type_.Kind)&&(k.Type_.Elem==n.Type_.Elem))&&(k.Type_.Len==n.Type_.Len)&&(n.Type_.Kind !=5)):=by
 unfold Q4i;refine Z6x hl (fun k hk=>?_) (by rw[c0 (dge _)]);rw[c1 (dlt hk),E8 hk,qV];unfold Q9p;rw[qV];cases(((l[k].Type_.Kind==n.Type_.Kind)&&(l[k].Type_.Elem==n.Type_.Elem))&&(l[k].Type_.Len==n.Type_.Len)&&(n.Type_.Kind !=5))<;>rfl
theorem if3{l:List K8}(hl:l.length<=1000000):Q4h l=some (Z3w l fun k=>decide (k.Name=[])):=by
 unfold Q4h;refine Z6x hl (fun k hk=>?_) (by rw[c0 (dge _)]);rw[c1 (dlt hk),E8 hk,qV];unfold Q9t;rw[qV];cases(decide (l[k].Name=[]))<;>rfl
theorem Y1d(t:Z9)(n:Int):S5 t n=some (decide (0<=n/\n<t.list.length)):=by
 unfold S5
 congr 1
 by_cases h1:0<=n<;>by_cases h2:n<t.list.length<;>simp[h1,h2]
theorem S7{α:Type}{l:List α}{n:Int}(h:0<=n/\n<l.length):∃x,idx l n=some x/\x∈l:=by
 obtain⟨k,rfl⟩:=jR h.1;have hk:k<l.length:=by omega
 exact⟨l[k],E8 hk,jT hk⟩
theorem X5x{α:Type}{l s:List α}{n:Int}{x:α}(h:idx l n=some x):idx (l++s) n=some x:=by
 obtain⟨h0,h1,h2⟩:=Q2d h;unfold idx;rw[if_pos h0,kR (by omega),h2]
structure KOk(l:List K3)(k:K3):Prop where
 sz:0<=k.size/\k.size<=32768
 al:0<=k.align/\k.align<=32768
 sa:k.size≠0->1<=k.align
 op:k.open_=true->k.size=0
 arr:k.Type_.Kind=4->1<=k.Type_.Len/\∃e,idx l k.Type_.Elem=some e/\1<=e.size/\k.size=k.Type_.Len*e.size
 fl:k.Type_.Fields.length<=5000
structure Tab(t:Z9):Prop where
 l3:3<=t.list.length
 l4:t.list.length<=400
 k:∀k∈t.list,KOk t.list k
def Gr(t t':Z9):Prop:=∃s,t'.list=t.list++s
theorem Gr.refl(t:Z9):Gr t t:=⟨[],by simp⟩
theorem Gr.trans{a b c:Z9}(h:Gr a b)(g:Gr b c):Gr a c:=by
 obtain⟨s,hs⟩:=h;obtain⟨r,hr⟩:=g;exact⟨s++r,by rw[hr,hs,qS]⟩
theorem Gr.len{t t':Z9}(h:Gr t t'):t.list.length<=t'.list.length:=by
 obtain⟨s,hs⟩:=h;rw[hs,qW];omega
theorem Gr.idx{t t':Z9}(h:Gr t t'){n:Int}{x:K3}(hx:idx t.list n=some x):idx t'.list n=some x:=by
 obtain⟨s,hs⟩:=h;rw[hs];exact X5x hx
theorem KOk.app{l s:List K3}{k:K3}(h:KOk l k):KOk (l++s) k:=⟨h.sz,h.al,h.sa,h.op,fun e=>by
 obtain⟨h1,x,hx,h2⟩:=h.arr e
 exact⟨h1,x,X5x hx,h2⟩,h.fl⟩
theorem Y4z{t:Z9}(h:Tab t)(n:Aa):Q2i t n=some (Z3w t.list fun k=>k.Type_.Kind==5&&decide (k.Type_.Name=n)):=by
 unfold Q2i;exact bnd (if1 (by have:=h.l4;omega) n) rfl
def Pt(t:Z9)(P:Int->Z9->Prop)(y:Option (Int×Int×Z9)):Prop:=∃n e t',y=some (n,e,t')/\Tab t'/\Gr t t'/\(e=0->0<=n/\n<t'.list.length/\P n t')
theorem X0l{t:Z9}(h:Tab t){k:K3}(hk:KOk t.list k):Pt t (fun n t'=>∃x,idx t'.list n=some x/\x.Type_.Kind=k.Type_.Kind/\(k.Type_.Kind≠5->x.Type_.Elem=k.Type_.Elem/\x.Type_.Len=k.Type_.Len)) (Q4m t k):=by
 have l4:=h.l4;unfold Q4m;rw[if2 (by omega),qV];have hf:=X5z t.list (fun x=>((x.Type_.Kind==k.Type_.Kind)&&(x.Type_.Elem==k.Type_.Elem))&&(x.Type_.Len==k.Type_.Len)&&(k.Type_.Kind !=5));have hh:=X2x (l:=t.list) (p:=fun x=>((x.Type_.Kind==k.Type_.Kind)&&(x.Type_.Elem==k.Type_.Elem))&&(x.Type_.Len==k.Type_.Len)&&(k.Type_.Kind !=5))
 generalize Z3w t.list _=n at hf hh⊢
 by_cases h0:0<=n
 . rw[c1 (dt h0)];obtain⟨x,hx,hp⟩:=hh h0
   simp only[qM,beq_iff_eq]at hp
   exact⟨n,0,t,rfl,h,Gr.refl t,fun _=>⟨h0,hf.2,x,hx,hp.1.1.1,fun _=>⟨hp.1.1.2,hp.1.2⟩⟩⟩
 . rw[c0 (df h0)]
   by_cases h1:(400:Int)<=t.list.length
   . rw[c1 (dt h1)];exact⟨0,8,t,rfl,h,Gr.refl t,fun e=>by cases e⟩
   . rw[c0 (df h1),M9 (by simp;omega),qV];refine⟨_,_,_,rfl,⟨by simp;have:=h.l3;omega,by simp;omega,fun x hx=>?_⟩,⟨[k],rfl⟩,fun _=>?_⟩
     . rcases jQ.1 hx with hx|hx
       . exact(h.k x hx).app
       . rw[kQ.1 hx];exact hk.app
     . have e:qJ .i64 (((t.list++[k]).length:Int)-1)=(t.list.length:Int):=by rw[qW,w64 (by simp;omega)];simp
       refine⟨by rw[e];omega,by rw[e];simp;omega,k,?_,rfl,fun _=>⟨rfl,rfl⟩⟩
       dsimp only
       rw[e,E8 (by simp)]
       simp
theorem X5m{t:Z9}(h:Tab t)(n:Int):Pt t (fun _ _=>True) (Q4n t n):=by
 unfold Q4n;rw[Y1d,qV]
 by_cases h0:0<=n/\n<t.list.length
 . rw[dt h0];obtain⟨m,e,t',hy,h1,h2,h3⟩:=X0l h (k:=⟨⟨3,n,0,[],[]⟩,4,4,false⟩) ⟨(by decide:(0:Int)<=4/\(4:Int)<=32768),(by decide:(0:Int)<=4/\(4:Int)<=32768),fun _=>(by decide:(1:Int)<=4),fun e=>(by cases e),fun e=>(by cases e),by simp⟩;exact⟨m,e,t',bnd hy rfl,h1,h2,fun he=>⟨(h3 he).1,(h3 he).2.1,trivial⟩⟩
 . rw[df h0];exact⟨0,4,t,rfl,h,Gr.refl t,fun e=>by cases e⟩
theorem X7q{t:Z9}(h:Tab t)(n m:Int):Pt t (fun _ _=>True) (Q6x t n m):=by
 unfold Q6x;rw[Y1d,qV]
 by_cases h0:0<=n/\n<t.list.length
 . rw[dt h0];obtain⟨x,hx,hxm⟩:=S7 h0;have kx:=h.k x hxm;have hz:=kx.sz
   simp only[Bool.not_true,Aj,hx,qV]
   by_cases h1:x.size=0
   . rw[c1 (by rw[h1];rfl)];exact⟨0,5,t,rfl,h,Gr.refl t,fun e=>by cases e⟩
   . rw[c0 (by simpa using h1)]
     by_cases h2:m<1
     . rw[c1 (dt h2)];exact⟨0,1,t,rfl,h,Gr.refl t,fun e=>by cases e⟩
     . rw[c0 (df h2),show nz x.size=some () by unfold nz;rw[if_neg h1],qV];have hdiv:Int.tdiv 32768 x.size=32768/x.size:=Int.tdiv_eq_ediv_of_nonneg (by decide);have hd0:0<=(32768:Int)/x.size:=Int.ediv_nonneg (by decide) (by omega);have hd1:(32768:Int)/x.size<=32768:=Int.ediv_le_self _ (by decide);rw[hdiv,w64 (by omega)]
       by_cases h3:(32768:Int)/x.size<m
       . rw[c1 (dt h3)];exact⟨0,2,t,rfl,h,Gr.refl t,fun e=>by cases e⟩
       . rw[c0 (df h3)]
         have hmul:m*x.size<=32768:=by
          have h4:m*x.size<=(32768/x.size)*x.size:=Int.mul_le_mul_of_nonneg_right (by omega) (by omega);have h5:=Int.ediv_mul_le (32768:Int) h1;omega
         have hmul0:1<=m*x.size:=by
          have:=Int.mul_le_mul (show(1:Int)<=m by omega) (show(1:Int)<=x.size by omega) (by decide) (by omega);omega
         rw[w64 (by omega)];obtain⟨m',e,t',hy,g1,g2,g3⟩:=X0l h (k:=⟨⟨4,n,m,[],[]⟩,m*x.size,x.align,false⟩) ⟨by dsimp only;omega,kx.al,fun _=>kx.sa h1,fun e=>(by cases e),fun _=>⟨by dsimp only;omega,x,hx,by omega,rfl⟩,by simp⟩;exact⟨m',e,t',bnd hy rfl,g1,g2,fun he=>⟨(g3 he).1,(g3 he).2.1,trivial⟩⟩
 . rw[df h0];exact⟨0,4,t,rfl,h,Gr.refl t,fun e=>by cases e⟩
theorem open_any{t:Z9}(h:Tab t)(n:Aa):∃m e t',Q8b t n=some (m,e,t')/\Tab t':=by
 unfold Q8b
 by_cases h0:n=[]
 . rw[c1 (dt h0)];exact⟨_,_,_,rfl,h⟩
 . rw[c0 (df h0),Y4z h,qV]
   by_cases h1:0<=Z3w t.list fun k=>k.Type_.Kind==5&&decide (k.Type_.Name=n)
   . rw[c1 (dt h1)];exact⟨_,_,_,rfl,h⟩
   . rw[c0 (df h1)];obtain⟨m',e,t',hy,g1,g2,g3⟩:=X0l h (k:=⟨⟨5,0,0,n,[]⟩,0,0,true⟩) ⟨(by decide:(0:Int)<=0/\(0:Int)<=32768),(by decide:(0:Int)<=0/\(0:Int)<=32768),fun e=>absurd rfl e,fun _=>rfl,fun e=>(by cases e),by simp⟩;exact⟨m',e,t',bnd hy rfl,g1⟩
theorem find_any{t:Z9}(h:Tab t)(n:Aa):∃m e,Q8c t n=some (m,e):=by
 unfold Q8c;rw[Y4z h,qV]
 by_cases h1:(Z3w t.list fun k=>k.Type_.Kind==5&&decide (k.Type_.Name=n))<0
 . rw[c1 (dt h1)];exact⟨_,_,rfl⟩
 . rw[c0 (df h1)];exact⟨_,_,rfl⟩
def szT(t:Z9)(n:Int):Int:=match idx t.list n with
 |some x=>x.size
 |none=>0
theorem Z6w{α:Type}{l:List α}{n:Int}(h:¬(0<=n/\n<l.length)):idx l n=none:=by
 cases e:idx l n with
 |none=>rfl
 |some x=>exact absurd ⟨(Q2d e).1,(Q2d e).2.1⟩ h
theorem Q5r(t:Z9)(n:Int):K1 t n=some (szT t n):=by
 unfold K1 szT;rw[Y1d,qV]
 by_cases h0:0<=n/\n<t.list.length
 . obtain⟨x,hx,_⟩:=S7 h0;rw[dt h0,hx]
   rfl
 . rw[df h0,Z6w h0]
   rfl
def alT(t:Z9)(n:Int):Int:=match idx t.list n with
 |some x=>x.align
 |none=>0
theorem X3q(t:Z9)(n:Int):Q2j t n=some (alT t n):=by
 unfold Q2j alT;rw[Y1d,qV]
 by_cases h0:0<=n/\n<t.list.length
 . obtain⟨x,hx,_⟩:=S7 h0;rw[dt h0,hx]
   rfl
 . rw[df h0,Z6w h0]
   rfl
theorem X4b{t:Z9}(h:Tab t)(n:Int):0<=szT t n/\szT t n<=32768:=by
 unfold szT
 by_cases h0:0<=n/\n<t.list.length
 . obtain⟨x,hx,hm⟩:=S7 h0;rw[hx];exact(h.k x hm).sz
 . rw[Z6w h0];decide
theorem alT_ok{t:Z9}(h:Tab t)(n:Int):0<=alT t n/\alT t n<=32768/\(szT t n≠0->1<=alT t n):=by
 unfold alT szT
 by_cases h0:0<=n/\n<t.list.length
 . obtain⟨x,hx,hm⟩:=S7 h0;rw[hx];exact⟨(h.k x hm).al.1,(h.k x hm).al.2,(h.k x hm).sa⟩
 . rw[Z6w h0];decide
theorem Gr.sz{t t':Z9}(h:Gr t t'){n:Int}(hn:0<=n/\n<t.list.length):szT t' n=szT t n:=by
 obtain⟨x,hx,_⟩:=S7 hn;unfold szT;rw[h.idx hx,hx]
theorem X3c{l:List K8}(h:l.length<=5000):Q9l l=some l:=by
 unfold Q9l;rw[M9 (by simp;omega)]
 rfl
def tyT(t:Z9)(n:Int):Q7d×Int:=match idx t.list n with
 |some x=>(x.Type_,0)
 |none=>(⟨0,0,0,[],[]⟩,4)
theorem Z5n{t:Z9}(h:Tab t)(n:Int):C3 t n=some (tyT t n):=by
 unfold C3 tyT;rw[Y1d,qV]
 by_cases h0:0<=n/\n<t.list.length
 . obtain⟨x,hx,hm⟩:=S7 h0;rw[dt h0,c0 (b:=!true) rfl,hx];refine bnd (x:=x) rfl ?_;exact bnd (X3c (h.k x hm).fl) rfl
 . rw[df h0,Z6w h0]
   rfl
theorem Z2t(t:Z9)(n:Int):∃b,M0 t n=some b:=by
 unfold M0;rw[Y1d,qV]
 by_cases h0:0<=n/\n<t.list.length
 . obtain⟨x,hx,hm⟩:=S7 h0;rw[dt h0,hx];exact⟨_,rfl⟩
 . rw[df h0];exact⟨_,rfl⟩
theorem X7a{t:Z9}(h:Tab t)(n:Int)(nm:Aa):∃f e,Q4c t n nm=some (f,e):=by
 unfold Q4c;rw[Y1d,qV]
 by_cases h0:0<=n/\n<t.list.length
 . obtain⟨x,hx,hm⟩:=S7 h0;rw[dt h0]
   simp only[Bool.not_true,Aj,hx,qV]
   cases x.Type_.Kind !=5 with
   |true=>exact⟨_,_,rfl⟩
   |false=>
    have hfl:=(h.k x hm).fl;refine Exists.elim (Q4b (body:=fun(x1:Int)=>(bif decide (x1<(qQ x.Type_.Fields:Int))then((idx x.Type_.Fields x1).bind fun u3=>bif decide (u3.Name=nm)then(some (Lp.ret (u3,(0:Int))))else(some (Lp.go (qJ .i64 (x1+1)))))else(some (Lp.brk x1)):Option (Lp (Int) (K8×Int)))) (n:=NN) (s:=0) (fun s=>0<=s/\s<=x.Type_.Fields.length) (fun s=>x.Type_.Fields.length-s.toNat) (fun o=>(∃s,o= .brk s)\/∃r,o= .ret r) ⟨by omega,by omega⟩ (Z1i (by omega)) ?_) ?_
    . rintro s ⟨s0,s1⟩
      by_cases hs:s<x.Type_.Fields.length
      . rw[c1 (dt hs)];obtain⟨f,hf,_⟩:=S7 ⟨s0,hs⟩;rw[hf,qV];cases decide (f.Name=nm)with
        |true=>exact⟨_,rfl,.inr ⟨_,rfl⟩⟩
        |false=>exact⟨_,rfl,⟨by rw[w64 (by omega)];omega,by rw[w64 (by omega)];omega⟩,by rw[w64 (by omega)];omega⟩
      . rw[c0 (df hs)];exact⟨_,rfl,.inl ⟨_,rfl⟩⟩
    . rintro o ⟨ho,hp⟩;rw[c0 rfl,ho,qV]
      rcases hp with⟨s,rfl⟩|⟨⟨f,e⟩,rfl⟩
      . exact⟨_,_,rfl⟩
      . exact⟨f,e,rfl⟩
 . rw[df h0];exact⟨_,_,rfl⟩
def Er(r:Z2):Prop:=Pn r.pos/\r.e≠0
def Ep(r:Z2×Q0):Prop:=Er r.1
def Og{E A:Type}(q:E->Prop)(y:Option (Except E A))(p:A->Prop):Prop:=∃z,y=some z/\match z with
 | .error e=>q e
 | .ok x=>p x
theorem Og.ok{E A:Type}{q:E->Prop}{x:A}{p:A->Prop}(h:p x):Og q (some (qX x)) p:=⟨_,rfl,h⟩
theorem Og.err{E A:Type}{q:E->Prop}{e:E}{p:A->Prop}(h:q e):Og q (some (qK (α:=A) e)) p:=⟨_,rfl,h⟩
theorem Og.mono{E A:Type}{q:E->Prop}{y:Option (Except E A)}{p r:A->Prop}(h:Og q y p)(hp:∀x,p x->r x):Og q y r:=by
 obtain⟨z,e,hz⟩:=h;refine⟨z,e,?_⟩;cases z with
 |error e=>exact hz
 |ok x=>exact hp x hz
theorem Og.bind{E E' A B:Type}{q:E->Prop}{q':E'->Prop}{y:Option (Except E A)}{p:A->Prop}{f:A->Option (Except E' B)}{k:E->Option (Except E' B)}{r:B->Prop}(h:Og q y p)(hf:∀x,p x->Og q' (f x) r)(hk:∀e,q e->Og q' (k e) r):Og q' (y.bind fun z=>exC z f k) r:=by
 obtain⟨z,ez,hz⟩:=h;rw[ez,qV];cases z with
 |error e=>exact hk e hz
 |ok x=>exact hf x hz
theorem Og.step{E A B:Type}{q:E->Prop}{m:Option B}{x:B}{f:B->Option (Except E A)}{p:A->Prop}(h:m=some x)(k:Og q (f x) p):Og q (m.bind f) p:=by subst h;exact k
theorem Rn.bindG{E A S R:Type}{q:E->Prop}{y:Option (Except E A)}{p:A->Prop}{f:A->Option (Lp S R)}{k:E->Option (Lp S R)}{P:Lp S R->Prop}(h:Og q y p)(hf:∀x,p x->Rn (f x) P)(hk:∀e,q e->Rn (k e) P):Rn (y.bind fun z=>exC z f k) P:=by
 obtain⟨z,ez,hz⟩:=h;rw[ez,qV];cases z with
 |error x=>exact hk x hz
 |ok x=>exact hf x hz
def NxG{S R E A:Type}(I:S->Prop)(μ:S->Nat)(s:S)(f:Lp S R->Option (Except E A))(q:E->Prop)(p:A->Prop):Lp S R->Prop
 | .go s'=>I s'/\μ s'<μ s
 | .brk s'=>Og q (f (.brk s')) p
 | .ret r=>Og q (f (.ret r)) p
theorem Og.loop{S R E A:Type}{body:S->Option (Lp S R)}{f:Lp S R->Option (Except E A)}{q:E->Prop}{p:A->Prop}{s:S}(I:S->Prop)(μ:S->Nat)(hI:I s)(hn:μ s<2000000)(hs:∀s,I s->Rn (body s) (NxG I μ s f q p)):Og q ((loopM body NN s).bind f) p:=by
 obtain⟨o,ho,hp⟩:=Q4b I μ (fun o=>Og q (f o) p) hI (Z1i (by omega)) (fun s h=>by
  obtain⟨z,e,hz⟩:=hs s h;exact⟨z,e,by cases z<;>exact hz⟩)
 exact Og.step ho hp
theorem X1c{p:Pos}{k:Int}(hp:Pn p)(hk:k≠0):Og Er (X2 p k) (fun _=>False):=Og.err ⟨hp,hk⟩
theorem must_g{p:Pos}{k:Int}(hp:Pn p):Og Er (S0 p k) (fun _=>k=0):=by
 unfold S0
 by_cases h:k=0
 . rw[c0 (by rw[h];rfl)];exact Og.ok h
 . rw[c1 (by simpa using h)];exact Og.bind (X1c hp h) (fun _ h=>h.elim) (fun e he=>Og.err he)
/-! Structs. -/
theorem if4{l:List K8}(hl:l.length<=1000000)(t:Z9):Q4g l t=some (Z3w l fun f=>!decide (0<=f.Type_/\f.Type_<t.list.length)):=by
 unfold Q4g;refine Z6x hl (fun k hk=>?_) (by rw[c0 (dge _)]);rw[c1 (dlt hk),E8 hk,qV];unfold Q9s;rw[Y1d,qV,qV];cases decide (0<=l[k].Type_/\l[k].Type_<t.list.length)<;>rfl
theorem if5{l:List K8}(hl:l.length<=1000000)(t:Z9):Q4f l t=some (Z3w l fun f=>szT t f.Type_==0):=by
 unfold Q4f;refine Z6x hl (fun k hk=>?_) (by rw[c0 (dge _)]);rw[c1 (dlt hk),E8 hk,qV];unfold Q9r;rw[Q5r,qV,qV];cases(szT t l[k].Type_==0)<;>rfl
theorem if6{l:List K8}(hl:l.length<=1000000)(n:K8):Q4e l n=some (Z3w l fun f=>decide (f.Name=n.Name)):=by
 unfold Q4e;refine Z6x hl (fun k hk=>?_) (by rw[c0 (dge _)]);rw[c1 (dlt hk),E8 hk,qV];unfold Q9q;rw[qV];cases(decide (l[k].Name=n.Name))<;>rfl
theorem X7b{α:Type}{l:List α}{p:α->Bool}(h:¬0<=Z3w l p):∀x∈l,p x=false:=by
 unfold Z3w at h;cases e:l.findIdx? p with
 |none=>
  rw[List.findIdx?_eq_none_iff]at e;exact e
 |some k=>rw[e]at h;exact absurd (Int.natCast_nonneg k) h
theorem may_any(t:Z9){l:List K8}(hl:l.length<=5000):∃e,Q9b t l=some e/\(e=0->l≠[]/\∀f∈l,szT t f.Type_≠0):=by
 unfold Q9b
 by_cases h0:l=[]
 . rw[c1 (by rw[h0];rfl)];exact⟨1,rfl,fun e=>by cases e⟩
 . have hn:((l.length:Int)==0)=false:=beq_eq_false_iff_ne.2 (by
    intro e;exact h0 (List.length_eq_zero_iff.1 (by omega)))
   rw[c0 hn];unfold Q6q;rw[if3 (by omega),qV,qV]
   by_cases h1:0<=Z3w l fun k=>decide (k.Name=[])
   . rw[c1 (dt h1)];exact⟨1,rfl,fun e=>by cases e⟩
   rw[c0 (df h1)];unfold Q4u;rw[if4 (by omega),qV,qV]
   by_cases h2:0<=Z3w l fun f=>!decide (0<=f.Type_/\f.Type_<t.list.length)
   . rw[c1 (dt h2)];exact⟨4,rfl,fun e=>by cases e⟩
   rw[c0 (df h2)];unfold Q4t;rw[if5 (by omega),qV,qV]
   by_cases h3:0<=Z3w l fun f=>szT t f.Type_==0
   . rw[c1 (dt h3)];exact⟨5,rfl,fun e=>by cases e⟩
   rw[c0 (df h3)];have hz:l≠[]/\∀f∈l,szT t f.Type_≠0:=⟨h0,fun f hf=>by simpa using X7b h3 f hf⟩;refine Exists.elim (Q4b (body:=fun(x1:Int)=>(bif decide (x1<(qQ l:Int))then((idx l x1).bind fun u1=>(sub l 0 x1).bind fun u2=>(Q2c u2 u1).bind fun y4=>bif y4 then(some (Lp.ret (6:Int)))else(some (Lp.go (qJ .i64 (x1+1)))))else(some (Lp.brk x1)):Option (Lp (Int) (Int)))) (n:=NN) (s:=0) (fun s=>0<=s/\s<=l.length) (fun s=>l.length-s.toNat) (fun o=>(∃s,o= .brk s)\/o= .ret 6) ⟨by omega,by omega⟩ (Z1i (by omega)) ?_) ?_
   . rintro s ⟨s0,s1⟩
     by_cases hs:s<l.length
     . rw[c1 (dt hs)];obtain⟨f,hf,_⟩:=S7 ⟨s0,hs⟩;obtain⟨k,rfl⟩:=jR s0;rw[hf,qV,show sub l 0 (k:Int)=some (l.take k) by unfold sub;rw[if_pos (by omega)];simp,qV];unfold Q2c;rw[if6 (by rw[qE];omega),qV,qV];cases decide (0<=Z3w (l.take k) fun g=>decide (g.Name=f.Name))with
       |true=>exact⟨_,rfl,.inr rfl⟩
       |false=>exact⟨_,rfl,⟨by rw[w64 (by omega)];omega,by rw[w64 (by omega)];omega⟩,by rw[w64 (by omega)];omega⟩
     . rw[c0 (df hs)];exact⟨_,rfl,.inl ⟨_,rfl⟩⟩
   . rintro o ⟨ho,hp⟩;rw[ho,qV]
     rcases hp with⟨s,rfl⟩|rfl
     . exact⟨0,rfl,fun _=>hz⟩
     . exact⟨6,rfl,fun e=>by cases e⟩
theorem up_any{x a:Int}(hx:0<=x/\x<=100000)(ha:1<=a/\a<=32768):∃y,Z8b x a=some y/\x<=y/\y<x+a:=by
 unfold Z8b;rw[show nz a=some () by unfold nz;rw[if_neg (by omega)],qV,w64 (x:=x+a) (by omega),w64 (x:=x+a-1) (by omega),Int.tdiv_eq_ediv_of_nonneg (by omega)];have h1:=Int.ediv_mul_le (x+a-1) (show a≠0 by omega);have h2:=Int.lt_ediv_add_one_mul_self (x+a-1) (show 0<a by omega);have h3:((x+a-1)/a+1)*a=(x+a-1)/a*a+a:=by rw[Int.add_mul];omega
 have h4:0<=(x+a-1)/a:=Int.ediv_nonneg (by omega) (by omega);have h5:(x+a-1)/a<=x+a-1:=Int.ediv_le_self _ (by omega);rw[w64 (x:=(x+a-1)/a) (by omega),w64 (by omega)];exact⟨_,rfl,by omega,by omega⟩
theorem Y6p{α:Type}{l:List α}{n m:Int}{x:α}(hn:0<=n):idx (qP l (qF n) x) m=if m=n/\n<l.length then some x else idx l m:=by
 unfold idx
 by_cases h0:0<=m
 . rw[if_pos h0,if_pos h0,List.getElem?_set]
   by_cases e:n.toNat=m.toNat
   . have e2:m=n:=by omega
     subst e2;rw[if_pos e]
     by_cases hl:m<l.length
     . rw[if_pos (by omega),if_pos ⟨rfl,hl⟩]
     . rw[if_neg (by omega),if_neg (fun h=>hl h.2)];exact(List.getElem?_eq_none (by omega)).symm
   . rw[if_neg e,if_neg (fun h=>e (by rw[h.1]))]
 . rw[if_neg h0,if_neg h0,if_neg (fun h=>h0 (by omega))]
theorem Y6m{α:Type}{l:List α}{n:Nat}{x y:α}(h:y∈qP l n x):y∈l\/y=x:=List.mem_or_eq_of_mem_set h
theorem Tab.close{t:Z9}(h:Tab t){n:Int}{u:K3}(hn:0<=n/\n<t.list.length)(hu:idx t.list n=some u)(hk:u.Type_.Kind=5)(ho:u.size=0){v:K3}(hv:KOk t.list v)(hv5:v.Type_.Kind=5):Tab ⟨qP t.list n.toNat v⟩:=by
 have keep:∀x,KOk t.list x->KOk (qP t.list n.toNat v) x:=fun x hx=>⟨hx.sz,hx.al,hx.sa,hx.op,fun e=>by
  obtain⟨h1,y,hy,h2,h3⟩:=hx.arr e;refine⟨h1,y,?_,h2,h3⟩;rw[Y6p hn.1];rw[if_neg]
  . exact hy
  . rintro⟨e1,_⟩;rw[e1,hu]at hy;cases hy;omega,hx.fl⟩
 refine⟨by simpa using h.l3,by simpa using h.l4,fun x hx=>?_⟩
 rcases Y6m hx with hx|rfl
 . exact keep x (h.k x hx)
 . exact keep _ hv
theorem X4c{t:Z9}(h:Tab t)(nm:Aa){l:List K8}(hl:l.length<=5000):∃n e t',Q5v t nm l=some (n,e,t')/\Tab t':=by
 have l4:=h.l4;unfold Q5v;rw[Y4z h,qV];have hf:=X5z t.list (fun k=>k.Type_.Kind==5&&decide (k.Type_.Name=nm));have hh:=X2x (l:=t.list) (p:=fun k=>k.Type_.Kind==5&&decide (k.Type_.Name=nm))
 generalize Z3w t.list _=n at hf hh⊢
 by_cases h0:n<0
 . rw[c1 (dt h0)];exact⟨_,_,_,rfl,h⟩
 rw[c0 (df h0)];obtain⟨u,hu,hp⟩:=hh (by omega)
 simp only[qM,beq_iff_eq]at hp
 have hum:u∈t.list:=by
  obtain⟨x,hx,hm⟩:=S7 (l:=t.list) (n:=n) ⟨by omega,hf.2⟩;rw[hu]at hx;cases hx;exact hm
 rw[hu,qV];cases hop:u.open_ with
 |false=>exact⟨_,_,_,rfl,h⟩
 |true=>
 rw[c0 (b:=!true) rfl];have husz:=(h.k u hum).op hop;obtain⟨e,he,hz⟩:=may_any t hl;rw[he,qV]
 by_cases h1:e=0
 case neg=>rw[c1 (by simpa using h1)];exact⟨_,_,_,rfl,h⟩
 rw[c0 (by rw[h1];rfl),X3c hl,qV];have hz:=(hz h1).2
 refine Exists.elim (Q4b (body:=fun(x1,x2,x3,x4)=>(bif decide (x2<(qQ l:Int))then((idx x1 x2).bind fun u2=>(idx x1 x2).bind fun u3=>(Q3p u3 x4 t x3).bind fun y4=>bif !y4.1 then(some (Lp.ret ((0:Int),(2:Int),t)))else(some (Lp.go (qP x1 (qF x2) y4.2.1,qJ .i64 (x2+1),y4.2.2.2,y4.2.2.1))))else(some (Lp.brk (x1,x2,x3,x4))):Option (Lp ((List K8)×Int×Int×Int) (Int×Int×Z9)))) (n:=NN) (s:=(l,(0:Int),(1:Int),(0:Int)))
  (fun s=>s.1.length=l.length/\(∀f∈s.1,szT t f.Type_≠0)/\(0<=s.2.1/\s.2.1<=l.length)/\(1<=s.2.2.1/\s.2.2.1<=32768)/\(0<=s.2.2.2/\s.2.2.2<=32768)) (fun s=>l.length-s.2.1.toNat)
  (fun o=>(∃s,o= .brk s/\s.1.length=l.length/\(1<=s.2.2.1/\s.2.2.1<=32768)/\(0<=s.2.2.2/\s.2.2.2<=32768))\/o= .ret (0,2,t)) ⟨rfl,hz,by dsimp only;omega,(by decide:(1:Int)<=1/\(1:Int)<=32768),(by decide:(0:Int)<=0/\(0:Int)<=32768)⟩ (Z1i (by dsimp only;omega)) ?_) ?_
 . rintro⟨x1,x2,x3,x4⟩ ⟨i1,i2,i3,i4,i5⟩
   dsimp only at i1 i2 i3 i4 i5⊢
   by_cases hs:x2<l.length
   . rw[c1 (dt hs)];obtain⟨f,hf2,hfm⟩:=S7 (l:=x1) (n:=x2) ⟨i3.1,by rw[i1];exact hs⟩;rw[hf2,qV,qV];have hal:=alT_ok h f.Type_;have hsz:=X4b h f.Type_;have hne:=i2 f hfm;obtain⟨y,hy,hy1,hy2⟩:=up_any (x:=x4) (a:=alT t f.Type_) (by omega) ⟨hal.2.2 hne,hal.2.1⟩;unfold Q3p;rw[X3q,qV,hy,qV,Q5r,qV,qV,qV]
     dsimp only
     rw[w64 (x:=y+szT t f.Type_) (by omega)]
     by_cases hb:y+szT t f.Type_<=32768
     . rw[dt hb];refine⟨_,rfl,⟨by simpa using i1,?_,by dsimp only;rw[w64 (by omega)];omega,by dsimp only;omega,by dsimp only;omega⟩,by dsimp only;rw[w64 (by omega)];omega⟩;intro g hg
       rcases Y6m hg with hg|rfl
       . exact i2 g hg
       . exact hne
     . rw[df hb];exact⟨_,rfl,.inr rfl⟩
   . rw[c0 (df hs)];exact⟨_,rfl,.inl ⟨_,rfl,i1,i4,i5⟩⟩
 . rintro o ⟨ho,hp2⟩;rw[ho,qV]
   rcases hp2 with⟨⟨x1,x2,x3,x4⟩,rfl,j1,j2,j3⟩|rfl
   case inr=>exact⟨_,_,_,rfl,h⟩
   dsimp only[Lp.thn]at j1 j2 j3⊢
   obtain⟨y,hy,hy1,hy2⟩:=up_any (x:=x4) (a:=x3) (by omega) j2;rw[hy,qV]
   by_cases hb:(32768:Int)<y
   . rw[c1 (dt hb)];exact⟨_,_,_,rfl,h⟩
   rw[c0 (df hb),qV,qV,qV,Y6p (by omega),if_pos ⟨rfl,hf.2⟩,qV,Y6p (by omega),if_pos ⟨rfl,by simpa using hf.2⟩,qV,Y6p (by omega),if_pos ⟨rfl,by simpa using hf.2⟩,qV];refine⟨_,_,_,rfl,?_⟩
   simp only[List.set_set]
   refine h.close ⟨by omega,hf.2⟩ hu hp.1 husz ⟨by dsimp only;omega,by dsimp only;omega,fun _=>j2.1,fun e=>(by cases e),fun e=>?_,by dsimp only;omega⟩ hp.1
   dsimp only at e
   rw[hp.1]at e;cases e
structure Tg(c c':Q0):Prop where
 eq:c'={c with t:=c'.t}
 tab:Tab c'.t
 gr:Gr c.t c'.t
theorem Tg.refl{c:Q0}(h:Tab c.t):Tg c c:=⟨rfl,h,Gr.refl _⟩
theorem Tg.mk'{c:Q0}{t:Z9}(h:Tab t)(g:Gr c.t t):Tg c {c with t:=t}:=⟨rfl,h,g⟩
theorem Tg.trans{a b c:Q0}(h:Tg a b)(g:Tg b c):Tg a c:=⟨by rw[g.eq,h.eq],g.tab,h.gr.trans g.gr⟩
theorem X4l{p:Pos}{k:Int}{c:Q0}{B:Type}{f:Unit->Option (Am B)}{r:B->Prop}(hp:Pn p)(hf:k=0->Og Ep (f ()) r):Og Ep ((S0 p k).bind fun y=>exC y f (fun e=>some (qK (e,c)))) r:=
 Og.bind (must_g hp) (fun _ h=>hf h) (fun e he=>Og.err he)
theorem Z2e{p:Pos}{k:Int}{c:Q0}{B:Type}{f:Unit->Option (Am B)}{r:B->Prop}(hp:Pn p)(hk:k≠0):Og Ep ((X2 p k).bind fun y=>exC y f (fun e=>some (qK (e,c)))) r:=
 Og.bind (X1c hp hk) (fun _ h=>h.elim) (fun e he=>Og.err he)
theorem fail_l{p:Pos}{k:Int}{c:Q0}{S A B:Type}{f:Unit->Option (Lp S (Am A))}{I:S->Prop}{μ:S->Nat}{s:S}{F:Lp S (Am A)->Option (Am B)}{r:B->Prop}(hp:Pn p)(hk:k≠0)(hF:∀e,Ep e->Og Ep (F (.ret (.error e))) r):Rn ((X2 p k).bind fun y=>exC y f (fun e=>some (Lp.ret (qK (e,c))))) (NxG I μ s F Ep r):=
 Rn.bindG (X1c hp hk) (fun _ h=>h.elim) (fun e he=>Rn.ok (hF _ he))
theorem Y7m{p:Pos}{k:Int}{c:Q0}{S A B:Type}{f:Unit->Option (Lp S (Am A))}{I:S->Prop}{μ:S->Nat}{s:S}{F:Lp S (Am A)->Option (Am B)}{r:B->Prop}(hp:Pn p)(hf:k=0->Rn (f ()) (NxG I μ s F Ep r))(hF:∀e,Ep e->Og Ep (F (.ret (.error e))) r):Rn ((S0 p k).bind fun y=>exC y f (fun e=>some (Lp.ret (qK (e,c))))) (NxG I μ s F Ep r):=
 Rn.bindG (must_g hp) (fun _ h=>hf h) (fun e he=>Rn.ok (hF _ he))
theorem Y3r{c:Q0}(h:Tab c.t){p:Pos}(hp:Pn p){ty:K6}(ht:OkT ty):Og Ep (F2 c p ty) (fun x=>Tg c x.2):=by
 unfold F2
 dsimp only[jn]
 have key:∀x1:Int,Og Ep ((loopM (fun(x3,x4,x5)=>(bif decide (x4<ty.Stars)then((Q4n x5 x3).bind fun y3=>(S0 p y3.2.1).bind fun y4=>exC y4 (fun y4=>some (Lp.go (y3.1,qJ .i64 (x4+1),y3.2.2))) (fun e2=>some (Lp.ret (qK (e2,{c with t:=y3.2.2})))))else(some (Lp.brk (x3,x4,x5))):Option (Lp (Int×Int×Z9) (Am (Int×Q0))))) NN (x1,(0:Int),c.t)).bind fun o=>o.thn (fun(x3,x4,x5)=>some (qX (x3,{c with t:=x5}))) (fun r=>some r)) (fun x=>Tg c x.2):=by
  intro x1;have hst:=ht.2.2;refine Og.loop (fun s=>Tab s.2.2/\Gr c.t s.2.2/\0<=s.2.1) (fun s=>ty.Stars.toNat-s.2.1.toNat) ⟨h,Gr.refl _,qC 0⟩ (by dsimp only;omega) ?_;rintro⟨x3,x4,x5⟩ ⟨i1,i2,i3⟩
  dsimp only at i1 i2 i3⊢
  by_cases hs:x4<ty.Stars
  . rw[c1 (dt hs)];obtain⟨n,e,t',hy,g1,g2,g3⟩:=X5m i1 x3;refine Rn.step hy ?_;refine Y7m hp (fun he=>Rn.ok ⟨⟨g1,i2.trans g2,by dsimp only;rw[w64 (by omega)];omega⟩,by dsimp only;rw[w64 (by omega)];omega⟩) (fun e he=>Og.err he)
  . rw[c0 (df hs)];exact Rn.ok (Og.ok (Tg.mk' i1 i2))
 by_cases h1:ty.Word=[105,110,116]
 . rw[c1 (dt h1)];exact key 1
 rw[c0 (df h1)]
 by_cases h2:ty.Word=[99,104,97,114]
 . rw[c1 (dt h2)];exact key 2
 rw[c0 (df h2)]
 by_cases h3:ty.Word=[115,116,114,117,99,116]
 . rw[c1 (dt h3)];obtain⟨m,e,hy⟩:=find_any h ty.Name;refine Og.step hy ?_;exact X4l hp fun _=>key m
 rw[c0 (df h3)];exact key 0
theorem X3a{c:Q0}(h:Tab c.t){v:J2}(hv:OkV v)(hd:v.Dims.length<=5000):Og Ep (N5 c v) (fun x=>Tg c x.2):=by
 unfold N5;refine Og.bind (Y3r h hv.pos hv.ty) (fun y1 a1=>?_) (fun e he=>Og.err he);refine Og.loop (fun s=>Tab s.2.2/\Gr c.t s.2.2/\ -1<=s.2.1/\s.2.1<v.Dims.length) (fun s=>(s.2.1+1).toNat) ⟨a1.tab,a1.gr,by dsimp only;rw[w64 (by omega)];omega,by dsimp only;rw[w64 (by omega)];omega⟩ (by dsimp only;rw[w64 (by omega)];omega) ?_;rintro⟨x2,x3,x4⟩ ⟨i1,i2,i3,i4⟩
 dsimp only at i1 i2 i3 i4⊢
 by_cases hs:0<=x3
 . rw[c1 (dt hs)];obtain⟨d,hd2,_⟩:=S7 ⟨hs,i4⟩;refine Rn.step hd2 ?_;obtain⟨n,e,t',hy,g1,g2,g3⟩:=X7q i1 x2 (qJ .i64 d);refine Rn.step hy ?_;refine Y7m hv.pos (fun he=>Rn.ok ⟨⟨g1,i2.trans g2,by dsimp only;rw[w64 (by omega)];omega,by dsimp only;rw[w64 (by omega)];omega⟩,by dsimp only;rw[w64 (by omega)];omega⟩) (fun e he=>Og.err he)
 . rw[c0 (df hs)];refine Rn.ok (Og.ok ⟨?_,i1,i2⟩)
   dsimp only
   rw[a1.eq]
theorem X5d{c:Q0}(h:Tab c.t){v:J2}(hv:OkV v)(hd:v.Dims.length<=5000):Og Ep (L0 c v) (fun x=>Tg c x.2/\szT x.2.t x.1≠0):=by
 unfold L0;refine Og.bind (X3a h hv hd) (fun y1 a1=>?_) (fun e he=>Og.err he);refine Og.step (Q5r _ _) ?_
 by_cases h0:szT y1.2.t y1.1=0
 . rw[c1 (by rw[h0];rfl)];exact Z2e hv.pos (by decide)
 . rw[c0 (by simpa using h0)];exact Og.ok ⟨a1,h0⟩
theorem Y8g{c:Q0}(h:Tab c.t)(n:Int):∃k,Q1f c n=some k/\(k≠0->k=szT c.t n)/\0<=k/\k<=32768:=by
 unfold Q1f;obtain⟨b,hb⟩:=Z2t c.t n;rw[hb,qV];cases b with
 |false=>exact⟨0,rfl,fun e=>absurd rfl e,by decide⟩
 |true=>
  have:=X4b h n;refine⟨szT c.t n,?_,fun _=>rfl,this.1,this.2⟩;rw[c0 (b:=!true) rfl,Q5r]
  rfl
theorem X2f{c:Q0}(h:Tab c.t)(nm:Aa)(n:Int):∃s,Q2k c nm n=some s:=by
 unfold Q2k;obtain⟨k,hk,_⟩:=Y8g h n;rw[Q5r,qV,X3q,qV,hk];exact⟨_,rfl⟩
def paT(t:Z9)(n:Int):Int:=if(tyT t n).1.Kind=4 then(tyT t n).1.Elem else n
theorem Y6l{c:Q0}(h:Tab c.t)(n:Int):Q0g c n=some (paT c.t n):=by
 unfold Q0g paT;rw[Z5n h,qV]
 by_cases h4:(tyT c.t n).1.Kind=4
 . rw[c1 (by rw[h4];rfl),if_pos h4]
 . rw[c0 (by simpa using h4),if_neg h4]
theorem Y3e{p:Pos}{k:Int}{B:Type}{f:Unit->Option (Except Z2 B)}{r:B->Prop}(hp:Pn p)(hk:k≠0):Og Er ((X2 p k).bind fun y=>exC y f (fun e=>some (qK e))) r:=
 Og.bind (X1c hp hk) (fun _ h=>h.elim) (fun e he=>Og.err he)
theorem X5w{c:Q0}(h:Tab c.t){v:J2}(hv:OkV v)(n:Int):Og Er (L3 c v n) (fun l=>(l=[]\/l=v.Init)/\(l≠[]->szT c.t (paT c.t n)≠0/\szT c.t (paT c.t n)*l.length<=szT c.t n)):=by
 unfold L3
 by_cases h0:v.Init=[]
 . rw[c1 (by rw[h0];rfl)];exact Og.ok ⟨.inl rfl,fun e=>absurd rfl e⟩
 . have hn:((v.Init.length:Int)==0)=false:=beq_eq_false_iff_ne.2 (by
    intro e;exact h0 (List.length_eq_zero_iff.1 (by omega)))
   rw[c0 hn,Z5n h,qV]
   by_cases h1:((tyT c.t n).1.Kind==4)=v.Brace
   case neg=>
    rw[c1 (by simpa using h1)];exact Y3e hv.pos (by decide)
   rw[c0 (by simpa using h1),Y6l h,qV];obtain⟨k,hk,hk1,hk2⟩:=Y8g h (paT c.t n);rw[hk,qV]
   by_cases h2:k=0
   . rw[c1 (by rw[h2];rfl)];exact Y3e hv.pos (by decide)
   rw[c0 (by simpa using h2)];have hkz:=hk1 h2
   by_cases h4:(tyT c.t n).1.Kind=4
   . by_cases h3:(tyT c.t n).1.Len<v.Init.length
     . rw[c1 (by rw[h4,dt h3];rfl)];exact Y3e hv.pos (by decide)
     rw[c0 (by rw[df h3];simp)];refine Og.ok ⟨.inr rfl,fun _=>⟨by rw[<-hkz];exact h2,?_⟩⟩;unfold paT at hkz⊢;rw[if_pos h4]at hkz⊢;unfold tyT at h4 h3 hkz⊢;cases hx:idx c.t.list n with
     |none=>rw[hx]at h4;exact absurd h4 (by decide)
     |some x=>
      rw[hx]at h4 h3 hkz
      have hm:x∈c.t.list:=by
       obtain⟨a,b,d⟩:=Q2d hx;exact jW d
      obtain⟨l1,e,he,he1,he2⟩:=(h.k x hm).arr h4;have e1:szT c.t n=x.size:=by unfold szT;rw[hx]
      have e2:szT c.t x.Type_.Elem=e.size:=by unfold szT;rw[he]
      dsimp only at h3⊢
      rw[e1,e2,he2,Int.mul_comm];exact Int.mul_le_mul_of_nonneg_right (by omega) (by omega)
   . have hb:v.Brace=false:=by rw[<-h1];simpa using h4
     have hl:=hv.br hb;rw[c0 (by simp[h4])];refine Og.ok ⟨.inr rfl,fun _=>⟨by rw[<-hkz];exact h2,?_⟩⟩;have hp:paT c.t n=n:=by unfold paT;rw[if_neg h4]
     have h1':v.Init.length=1:=by
      have:=List.length_pos_iff.2 h0;omega
     rw[hp,h1']
     simp
def MpO(m:Option (List (Aa×Int)))(n:Nat):Prop:=∃l,m=some l/\∀k v,Q9n l k=some v->0<=v/\v<n
structure Fn(f:E1):Prop where
 ty:f.types.length=f.slots.length
 le:f.slots.length<=200
 sc:∀m∈f.scopes,MpO m f.slots.length
 sl:f.scopes.length<=100000
def FnO:O3 E1->Prop
 | .nil=>True
 | .dead=>False
 | .some f=>Fn f
structure Ck(c:Q0):Prop where
 tab:Tab c.t
 gl:MpO c.globals c.gtypes.length
 co:MpO c.codes c.signs.length
 fn:FnO c.fun_
 gn:Z4y c.globals=c.gtypes.length
 cn:Z4y c.codes=c.signs.length
 ug:c.u.Globals.length=c.gtypes.length
 uc:c.u.Codes.length=c.signs.length
 lg:c.gtypes.length<=200
 lc:c.signs.length<=200
theorem Ck.tg{c c':Q0}(h:Ck c)(g:Tg c c'):Ck c':=by
 have e:=g.eq;have t:=g.tab
 generalize c'.t=t' at e t
 subst e;exact⟨t,h.gl,h.co,h.fn,h.gn,h.cn,h.ug,h.uc,h.lg,h.lc⟩
theorem Tg.fun_eq{c c':Q0}(g:Tg c c'):c'.fun_=c.fun_:=by rw[g.eq]
theorem Tg.back{c c':Q0}(g:Tg c c'):{c' with fun_:=c.fun_}=c':=by
 have:=g.fun_eq;rw[<-this]
inductive Dp:Nat->Y9->Prop
 |mk {n:Nat} {t:Y9} (h:∀k∈t.Kids,Dp n k) (nu:U32 t.Num) (kl:t.Kids.length<=100000):Dp (n+1) t
theorem Dp.mono{n:Nat}{t:Y9}(h:Dp n t):∀{m:Nat},n<=m->Dp m t:=by
 induction h with
 |@mk n t hk nu kl ih=>
  intro m hm;obtain⟨k,rfl⟩:∃k,m=k+1:=⟨m-1,by omega⟩;exact .mk (fun x hx=>ih x hx (by omega)) nu kl
theorem Dp.k0{n:Nat}{t:Y9}(h:t.Kids=[])(hn:1<=n)(nu:U32 t.Num:=by first|exact Z6n|exact Y1u _):Dp n t:=Dp.mono (n:=1) (.mk (n:=0) (fun k hk=>by rw[h]at hk;cases hk) nu (by rw[h];decide)) hn
theorem Dp.k1{n m:Nat}{t x:Y9}(h:t.Kids=[x])(hx:Dp n x)(hm:n+1<=m)(nu:U32 t.Num:=by first|exact Z6n|exact Y1u _):Dp m t:=Dp.mono (.mk (n:=n) (fun k hk=>by rw[h,kQ]at hk;rw[hk];exact hx) nu (by rw[h];simp)) hm
theorem Dp.k2{n m:Nat}{t x y:Y9}(h:t.Kids=[x,y])(hx:Dp n x)(hy:Dp n y)(hm:n+1<=m)(nu:U32 t.Num:=by first|exact Z6n|exact Y1u _):Dp m t:=Dp.mono (.mk (n:=n) (fun k hk=>by
 rw[h]at hk
 rcases qZ.1 hk with rfl|hk
 . exact hx
 . rw[kQ.1 hk];exact hy) nu (by rw[h];simp)) hm
theorem Z6y{c:Q0}(h:Tab c.t)(n:Int):∃e b,H5 c n=some (e,b):=by
 unfold H5;rw[Z5n h,qV,Q5r,qV];cases(tyT c.t n).1.Kind==3<;>exact⟨_,_,rfl⟩
theorem Q0w{c:Q0}(h:Tab c.t)(n:Int):∃b,X4 c n=some b:=by
 unfold X4;rw[Z5n h];exact⟨_,rfl⟩
theorem Z7p(c:Q0)(n:Int):∃k,E6 c n=some k:=by
 unfold E6;cases n==2<;>exact⟨_,rfl⟩
theorem Y0s(x:Z5):∃b,Q3m x=some b:=⟨_,rfl⟩
theorem Y1r{c:Q0}(h:Tab c.t)(a b:Y9)(e k:Int):∃s p,Q0v c a b e k=some ⟨14,k,0,0,false,s,false,p,[a,b]⟩:=by
 unfold Q0v;rw[Q5r];exact⟨_,_,rfl⟩
theorem X0m{c:Q0}(h:Tab c.t){p:Pos}(hp:Pn p)(n:Int):Og Ep (L1 c p n) (fun x=>Tg c x.2):=by
 unfold L1;obtain⟨m,e,t',hy,g1,g2,g3⟩:=X5m h n;refine Og.step hy ?_;exact X4l hp fun _=>Og.ok (Tg.mk' g1 g2)
theorem X4a{c:Q0}(h:Tab c.t){p:Pos}(hp:Pn p){v:Y0}{n:Nat}(hv:Dp n v.term):Og Ep (H0 c p v) (fun x=>Tg c x.2/\Dp (n+1) x.1.term):=by
 unfold H0
 dsimp only[jn]
 cases hl:v.lies with
 |false=>exact Og.ok ⟨Tg.refl h,hv.mono (by omega)⟩
 |true=>
 rw[c0 (b:=!true) rfl,Z5n h,qV,Q5r,qV]
 by_cases h4:(tyT c.t v.n).1.Kind=4
 . rw[c1 (by rw[h4];rfl)]
   by_cases h2:v.term.Kind=2
   . rw[c0 (by rw[h2];rfl)];exact Og.bind (X0m h hp _) (fun y a=>Og.ok ⟨a,hv.mono (by omega)⟩) (fun e he=>Og.err he)
   . rw[c1 (by simpa using h2)];exact Og.bind (X0m h hp _) (fun y a=>Og.ok ⟨a,Dp.k1 rfl hv (qD _)⟩) (fun e he=>Og.err he)
 . rw[c0 (by simpa using h4)];obtain⟨b,hb⟩:=Z2t c.t v.n;refine Og.step hb ?_;cases b with
   |false=>rw[c1 (b:=!false) rfl];exact Z2e hp (by decide)
   |true=>
    rw[c0 (b:=!true) rfl]
    by_cases h2:v.n=2
    . rw[c1 (by rw[h2];rfl)];obtain⟨q,hq⟩:=Q0w h 1;exact Og.step hq (Og.ok ⟨Tg.refl h,Dp.k1 rfl hv (qD _)⟩)
    . rw[c0 (by simpa using h2)];obtain⟨q,hq⟩:=Q0w h v.n;exact Og.step hq (Og.ok ⟨Tg.refl h,Dp.k1 rfl hv (qD _)⟩)
theorem Z6l{c:Q0}(h:Tab c.t){x:Z5}(hx:Pn x.Pos){v:Y0}{n:Nat}(hn:1<=n)(hv:Dp n v.term)(k:Int):Og Er (E4 c x v k) (fun t=>Dp n t):=by
 unfold E4;obtain⟨b,hb⟩:=Q0w h k;obtain⟨z,hz⟩:=Y0s x
 simp only[hb,hz,qV]
 have rest:Og Er (bif (b&&(v.n==k))then(some (qX v.term))else(bif ((!b)&&(v.n==1))then(some (qX v.term))else((X2 x.Pos 5).bind fun y6=>exC y6 (fun y6=>none) (fun e1=>some (qK e1))))) (fun t=>Dp n t):=by
  cases(b&&(v.n==k))with
  |true=>exact Og.ok hv
  |false=>
   rw[c0 (b:=false) rfl];cases((!b)&&(v.n==1))with
   |true=>exact Og.ok hv
   |false=>rw[c0 (b:=false) rfl];exact Y3e hx (by decide)
 cases b with
 |false=>exact rest
 |true=>
  rw[c1 (b:=true) rfl];cases z with
  |false=>exact rest
  |true=>rw[c1 (b:=true) rfl];exact Og.step (x:=(⟨1,0,0,0,false,0,false,true,[]⟩:Y9)) rfl (Og.ok (Dp.k0 rfl hn))
theorem X2v{c:Q0}(h:Tab c.t){x:Z5}(hx:Pn x.Pos){v:Y0}{n:Nat}(hn:1<=n)(hv:Dp n v.term)(k:Int):Og Er (N3 c x v k) (fun t=>Dp (n+1) t):=by
 unfold N3;refine Og.bind (Z6l h hx hn hv k) (fun y a=>?_) (fun e he=>Og.err he);cases k==2 with
 |true=>exact Og.ok (Dp.k1 rfl a (qD _))
 |false=>exact Og.ok (a.mono (by omega))
theorem X5t{c:Q0}(h:Tab c.t){p:Pos}(hp:Pn p){v:Y0}{t:Y9}{n:Nat}(hv:Dp n v.term)(ht:Dp n t)(k:Int):Og Er (L2 c p v t k) (fun y=>Dp (n+1) y.term):=by
 unfold L2;obtain⟨e,b,hb⟩:=Z6y h v.n;refine Og.step hb ?_;cases b with
 |false=>rw[c1 (b:=!false) rfl];exact Y3e hp (by decide)
 |true=>
  rw[c0 (b:=!true) rfl];obtain⟨s,q,hi⟩:=Y1r h v.term t e k;exact Og.step hi (Og.ok (Dp.k2 rfl hv ht (qD _)))
theorem cond_any{α:Type}{b:Bool}{x y:Option α}(h:∃k,x=some k)(g:∃k,y=some k):∃k,(bif b then x else y)=some k:=by cases b<;>assumption
theorem Y7x(o:Aa):∃k,Z1h o=some k:=by
 unfold Z1h
 repeat'(first|exact⟨_,rfl⟩|refine cond_any ?_ ?_)
theorem Q9d{x:Z5}{k:Nat}(h:k<x.Kids.length):∃y,idx x.Kids (k:Int)=some y/\y∈x.Kids:=⟨x.Kids[k],E8 h,jT h⟩
theorem OkE.kids{x:Z5}(h:OkE x):∀k∈x.Kids,OkE k:=match h with| .mk k _ _ _ _ _ _=>k
theorem OkE.ar{x:Z5}(h:OkE x):Z3u x.Kind<=x.Kids.length:=match h with| .mk _ _ _ _ a _ _=>a
theorem OkE.ex{x:Z5}(h:OkE x):Ex x.Kind x.Pos x.Op x.Name x.Kids.length:=match h with| .mk _ _ _ _ _ e _=>e
theorem OkE.ty{x:Z5}(h:OkE x):OkT x.Type_:=match h with| .mk _ _ _ t _ _ _=>t
theorem OkE.nu{x:Z5}(h:OkE x):U32 x.Num:=match h with| .mk _ _ _ _ _ _ n=>n
theorem OkE.pn{x:Z5}(h:OkE x):Pn x.Pos:=h.ex.1
theorem equal_g{c:Q0}(h:Tab c.t){x:Z5}(hx:OkE x)(h2:2<=x.Kids.length){u v:Y0}{n:Nat}(hn:1<=n)(hu:Dp n u.term)(hv:Dp n v.term):Og Er (W6 c x u v) (fun y=>Dp (n+1) y.term):=by
 unfold W6
 dsimp only[jn]
 obtain⟨a,ha,ham⟩:=Q9d (k:=0) (show 0<x.Kids.length by omega);obtain⟨b,hb,hbm⟩:=Q9d (k:=1) (show 1<x.Kids.length by omega);refine Og.step ha ?_;refine Og.step hb ?_;have pa:=(hx.kids a ham).pn;have pb:=(hx.kids b hbm).pn;obtain⟨f,hf⟩:=Y7x x.Op;refine Og.step hf ?_;obtain⟨p,hp⟩:=Q0w h u.n;obtain⟨q,hq⟩:=Q0w h v.n;obtain⟨za,hza⟩:=Y0s a;obtain⟨zb,hzb⟩:=Y0s b;have hno:Q2o=some (⟨1,0,0,0,false,0,false,true,[]⟩:Y9):=rfl
 simp only[hp,hq,hza,hzb,hno,qV]
 have d0:Dp n (⟨1,0,0,0,false,0,false,true,[]⟩:Y9):=Dp.k0 rfl hn
 cases p<;>cases q<;>cases za<;>cases zb<;>cases(u.n==v.n)<;>cases(u.n !=1)<;>simp only[Ak,Aj,Bool.not_true,Bool.not_false]<;>first
  |exact Y3e pa (by decide)
  |exact Y3e pb (by decide)
  |exact Og.ok (Dp.k2 rfl hu hv (qD _))
  |exact Og.ok (Dp.k2 rfl hu d0 (qD _))
  |exact Og.ok (Dp.k2 rfl d0 hv (qD _))
  |skip
theorem find_g{f:E1}(h:Fn f)(nm:Aa):∃v b,Q1t f nm=some (v,b)/\(b=true->0<=v/\v<f.types.length):=by
 have hsl:=h.sl;unfold Q1t;refine Exists.elim (Q4b (body:=fun(x1:Int)=>(bif decide (0<=x1)then((idx f.scopes x1).bind fun u1=>bif (P7 u1 nm).isSome then(some (Lp.ret ((P7 u1 nm).getD 0,true)))else(some (Lp.go (qJ .i64 (x1-1)))))else(some (Lp.brk x1)):Option (Lp (Int) (Int×Bool)))) (n:=NN) (s:=qJ .i64 ((qQ f.scopes:Int)-1)) (fun s=> -1<=s/\s<f.scopes.length) (fun s=>(s+1).toNat) (fun o=>(∃s,o= .brk s)\/∃v,o= .ret (v,true)/\0<=v/\v<f.types.length) ⟨by rw[w64 (by omega)];omega,by rw[w64 (by omega)];omega⟩ (Z1i (by rw[w64 (by omega)];omega)) ?_) ?_
 . rintro s ⟨s0,s1⟩
   by_cases hs:0<=s
   . rw[c1 (dt hs)];obtain⟨m,hm,hmm⟩:=S7 ⟨hs,s1⟩;rw[hm,qV];obtain⟨l,hl,hv⟩:=h.sc m hmm;have hg:P7 m nm=Q9n l nm:=by unfold P7;rw[hl];rfl
     rw[hg];cases he:Q9n l nm with
     |none=>exact⟨_,rfl,⟨by rw[w64 (by omega)];omega,by rw[w64 (by omega)];omega⟩,by rw[w64 (by omega)];omega⟩
     |some v=>
      have:=hv nm v he;exact⟨_,rfl,.inr ⟨v,rfl,this.1,by rw[h.ty];exact this.2⟩⟩
   . rw[c0 (df hs)];exact⟨_,rfl,.inl ⟨_,rfl⟩⟩
 . rintro o ⟨ho,hp⟩;rw[ho,qV]
   rcases hp with⟨s,rfl⟩|⟨v,rfl,hv⟩
   . exact⟨_,_,rfl,fun e=>by cases e⟩
   . exact⟨_,_,rfl,fun _=>hv⟩
theorem name_g{c:Q0}(h:Ck c){x:Z5}(hx:Pn x.Pos):Og Ep (Q0h c x) (fun y=>y.2=c/\Dp 1 y.1.term):=by
 unfold Q0h
 dsimp only[jn]
 have rest:Og Ep (bif !((P7 c.globals x.Name).isSome)then((X2 x.Pos 4).bind fun y2=>exC y2 (fun y2=>none) (fun e1=>some (qK (e1,c))))else((idx c.gtypes ((P7 c.globals x.Name).getD 0)).bind fun u5=>some (qX ((⟨u5,(⟨2,0,0,(P7 c.globals x.Name).getD 0,true,0,false,true,[]⟩:Y9),true⟩:Y0),c)))) (fun y=>y.2=c/\Dp 1 y.1.term):=by
  obtain⟨l,hl,hv⟩:=h.gl;have hg:P7 c.globals x.Name=Q9n l x.Name:=by unfold P7;rw[hl];rfl
  rw[hg];cases he:Q9n l x.Name with
  |none=>rw[c1 (b:=!(kJ none)) rfl];exact Z2e hx (by decide)
  |some v=>
   obtain⟨t,ht,_⟩:=S7 (hv _ _ he);rw[c0 (b:=!(kJ (some v))) rfl];exact Og.step ht (Og.ok ⟨rfl,Dp.k0 rfl (qD _)⟩)
 have hf:=h.fn;cases hfn:c.fun_ with
 |nil=>exact rest
 |dead=>rw[hfn]at hf;exact hf.elim
 |some f=>
  rw[hfn]at hf;refine Og.step (x:=false) rfl ?_;rw[c1 (b:=!false) rfl];refine Og.step (x:=f) rfl ?_;obtain⟨v,b,hy,hv⟩:=find_g hf x.Name;refine Og.step hy ?_;cases b with
  |false=>exact rest
  |true=>
   obtain⟨t,ht,_⟩:=S7 (hv rfl);exact Og.step ht (Og.ok ⟨rfl,Dp.k0 rfl (qD _)⟩)
def QV(c:Q0)(n:Nat)(y:Y0×Q0):Prop:=Tg c y.2/\Dp n y.1.term
def QT(c:Q0)(n:Nat)(y:Y9×Q0):Prop:=Tg c y.2/\Dp n y.1
theorem X6n{x k:Z5}(h:k∈x.Kids):wE k<=sm wE x.Kids:=by
 obtain⟨s,t,e⟩:=List.append_of_mem h;rw[e,Q2x,Q3q];omega
theorem Z3s{x k:Z5}(h:k∈x.Kids):wE k+1<=wE x:=by
 have:=X6n h;have h2:=Y6u x;omega
structure OkX(x:Z5):Prop where
 e:OkE x
 w:wE x<=10000
theorem OkX.kids{x:Z5}(h:OkX x):∀k∈x.Kids,OkX k:=fun k hk=>⟨h.e.kids k hk,by have:=Z3s hk;have:=h.w;omega⟩
theorem OkX.ar{x:Z5}(h:OkX x):Z3u x.Kind<=x.Kids.length:=h.e.ar
theorem OkX.ex{x:Z5}(h:OkX x):Ex x.Kind x.Pos x.Op x.Name x.Kids.length:=h.e.ex
theorem OkX.ty{x:Z5}(h:OkX x):OkT x.Type_:=h.e.ty
theorem OkX.pn{x:Z5}(h:OkX x):Pn x.Pos:=h.e.pn
structure S3(n:Nat):Prop where
 asked:∀c x,Ck c->OkX x->20*wE x+5<=n->Og Ep ((Q0l n).V3 c x) (QT c (6*wE x))
 number:∀c x,Ck c->OkX x->20*wE x+5<=n->Og Ep ((Q0l n).X7 c x) (QT c (6*wE x))
 unary:∀c x,Ck c->OkX x->1<=x.Kids.length->20*wE x+2<=n->Og Ep ((Q0l n).F1 c x) (QV c (6*wE x-2))
 both:∀c k x,Ck c->OkX x->2<=x.Kids.length->20*wE x+1<=n->Og Ep ((Q0l n).J5 c k x) (QV c (6*wE x-2))
 binary:∀c x,Ck c->OkX x->2<=x.Kids.length->20*wE x+2<=n->Og Ep ((Q0l n).G5 c x) (QV c (6*wE x-2))
 lying:∀c x,Ck c->OkX x->20*wE x+4<=n->Og Ep ((Q0l n).G3 c x) (QV c (6*wE x-2))
 assign:∀c x,Ck c->OkX x->2<=x.Kids.length->x.Op≠[]->20*wE x+2<=n->Og Ep ((Q0l n).G6 c x) (QV c (6*wE x-2))
 cond:∀c x,Ck c->OkX x->3<=x.Kids.length->20*wE x+2<=n->Og Ep ((Q0l n).F9 c x) (QV c (6*wE x-2))
 call:∀c x,Ck c->OkX x->x.Kind=7->20*wE x+2<=n->Og Ep ((Q0l n).E0 c x) (QV c (6*wE x-2))
 member:∀c x,Ck c->OkX x->1<=x.Kids.length->20*wE x+2<=n->Og Ep ((Q0l n).G4 c x) (QV c (6*wE x-2))
 step:∀c x,Ck c->OkX x->1<=x.Kids.length->20*wE x+2<=n->Og Ep ((Q0l n).F8 c x) (QV c (6*wE x-2))
 expr:∀c x,Ck c->OkX x->20*wE x+3<=n->Og Ep ((Q0l n).V5 c x) (QV c (6*wE x-2))
 value:∀c x,Ck c->OkX x->20*wE x+4<=n->Og Ep ((Q0l n).Z3 c x) (QV c (6*wE x))
theorem asked_s3{n:Nat}(h:S3 n):∀c x,Ck c->OkX x->20*wE x+5<=n+1->Og Ep ((Q0l (n+1)).V3 c x) (QT c (6*wE x)):=by
 intro c x hc hx hn;show Og Ep (I5 (Q0l n) c x) _;unfold I5;refine Og.bind (h.value c x hc hx (by omega)) (fun y a=>?_) (fun e he=>Og.err he);cases y.1.n !=1 with
 |false=>exact Og.ok a
 |true=>
  obtain⟨b,hb⟩:=Q0w a.1.tab y.1.n;refine Og.step hb ?_;cases b with
  |true=>exact Og.ok a
  |false=>rw[c1 (b:=!false) rfl];exact Z2e hx.pn (by decide)
theorem X6s{n:Nat}(h:S3 n):∀c x,Ck c->OkX x->20*wE x+5<=n+1->Og Ep ((Q0l (n+1)).X7 c x) (QT c (6*wE x)):=by
 intro c x hc hx hn;show Og Ep (A1 (Q0l n) c x) _;unfold A1;refine Og.bind (h.value c x hc hx (by omega)) (fun y a=>?_) (fun e he=>Og.err he);cases y.1.n !=1 with
 |false=>exact Og.ok a
 |true=>rw[c1 (b:=true) rfl];exact Z2e hx.pn (by decide)
theorem both_s3{n:Nat}(h:S3 n):∀c k x,Ck c->OkX x->2<=x.Kids.length->20*wE x+1<=n+1->Og Ep ((Q0l (n+1)).J5 c k x) (QV c (6*wE x-2)):=by
 intro c k x hc hx h2 hn;show Og Ep (R1 (Q0l n) c k x) _;unfold R1;obtain⟨a,ha,ham⟩:=Q9d (k:=0) (show 0<x.Kids.length by omega);obtain⟨b,hb,hbm⟩:=Q9d (k:=1) (show 1<x.Kids.length by omega);have wa:=Z3s ham;have wb:=Z3s hbm;refine Og.step ha ?_;refine Og.bind (h.asked c a hc (hx.kids a ham) (by omega)) (fun y1 a1=>?_) (fun e he=>Og.err he);refine Og.step hb ?_;refine Og.bind (h.asked y1.2 b (hc.tg a1.1) (hx.kids b hbm) (by omega)) (fun y2 a2=>?_) (fun e he=>Og.err he);exact Og.ok ⟨a1.1.trans a2.1,Dp.k2 (n:=6*wE x-6) rfl (a1.2.mono (by omega)) (a2.2.mono (by omega)) (by omega)⟩
theorem lying_s3{n:Nat}(h:S3 n):∀c x,Ck c->OkX x->20*wE x+4<=n+1->Og Ep ((Q0l (n+1)).G3 c x) (QV c (6*wE x-2)):=by
 intro c x hc hx hn;show Og Ep (I3 (Q0l n) c x) _;unfold I3;refine Og.bind (h.expr c x hc hx (by omega)) (fun y a=>?_) (fun e he=>Og.err he);cases y.1.lies with
 |false=>rw[c1 (b:=!false) rfl];exact Z2e hx.pn (by decide)
 |true=>
  rw[c0 (b:=!true) rfl];obtain⟨b,hb⟩:=Z2t y.2.t y.1.n;refine Og.step hb ?_;cases b with
  |true=>exact Og.ok a
  |false=>rw[c1 (b:=!false) rfl];exact Z2e hx.pn (by decide)
theorem value_s3{n:Nat}(h:S3 n):∀c x,Ck c->OkX x->20*wE x+4<=n+1->Og Ep ((Q0l (n+1)).Z3 c x) (QV c (6*wE x)):=by
 intro c x hc hx hn;show Og Ep (I0 (Q0l n) c x) _;unfold I0;have:=Q3k x;refine Og.bind (h.expr c x hc hx (by omega)) (fun y a=>?_) (fun e he=>Og.err he);refine Og.bind (X4a a.1.tab hx.pn a.2) (fun z b=>?_) (fun e he=>Og.err he);refine Og.ok ⟨?_,b.2.mono (by omega)⟩
 dsimp only
 rw[b.1.back];exact a.1.trans b.1
theorem unary_s3{n:Nat}(h:S3 n):∀c x,Ck c->OkX x->1<=x.Kids.length->20*wE x+2<=n+1->Og Ep ((Q0l (n+1)).F1 c x) (QV c (6*wE x-2)):=by
 intro c x hc hx h1 hn;show Og Ep (I1 (Q0l n) c x) _;unfold I1
 dsimp only[jn]
 obtain⟨a,ha,ham⟩:=Q9d (k:=0) (show 0<x.Kids.length by omega);have wa:=Z3s ham;have oa:=hx.kids a ham;refine Og.step ha ?_
 have num:∀k:Int,Og Ep (((Q0l n).X7 c a).bind fun y9=>exE y9 (fun y9=>some (qX ((⟨1,(⟨5,k,0,0,false,0,false,false,([y9.1]:List Y9)⟩:Y9),false⟩:Y0),y9.2)))) (QV c (6*wE x-2)):=fun k=>
  Og.bind (h.number c a hc oa (by omega)) (fun y a1=>Og.ok ⟨a1.1,Dp.k1 (n:=6*wE x-6) rfl (a1.2.mono (by omega)) (by omega)⟩) (fun e he=>Og.err he)
 by_cases o1:x.Op=[38]
 . rw[c1 (dt o1)];refine Og.bind (h.expr c a hc oa (by omega)) (fun y1 a1=>?_) (fun e he=>Og.err he);refine Og.step (Z5n a1.1.tab _) ?_;cases((!y1.1.lies)||((tyT y1.2.t y1.1.n).1.Kind==4))with
   |true=>rw[c1 (b:=true) rfl];exact Z2e oa.pn (by decide)
   |false=>
    rw[c0 (b:=false) rfl];refine Og.bind (X0m a1.1.tab hx.pn _) (fun y4 a4=>?_) (fun e he=>Og.err he);refine Og.ok ⟨?_,a1.2.mono (by omega)⟩
    dsimp only
    rw[a4.back];exact a1.1.trans a4
 rw[c0 (df o1)]
 by_cases o2:x.Op=[42]
 . rw[c1 (dt o2)];refine Og.bind (h.value c a hc oa (by omega)) (fun y1 a1=>?_) (fun e he=>Og.err he);obtain⟨e,b,hb⟩:=Z6y a1.1.tab y1.1.n;refine Og.step hb ?_;cases b with
   |false=>rw[c1 (b:=!false) rfl];exact Z2e oa.pn (by decide)
   |true=>exact Og.ok ⟨a1.1,a1.2.mono (by omega)⟩
 rw[c0 (df o2)]
 by_cases o3:x.Op=[33]
 . rw[c1 (dt o3)];exact Og.bind (h.asked c a hc oa (by omega)) (fun y a1=>Og.ok ⟨a1.1,Dp.k1 (n:=6*wE x-6) rfl (a1.2.mono (by omega)) (by omega)⟩) (fun e he=>Og.err he)
 rw[c0 (df o3)]
 by_cases o4:x.Op=[45]
 . rw[c1 (dt o4)];exact num 17
 . rw[c0 (df o4)];exact num 18
theorem Q1m{p:Pos}{k:Int}{c:Q0}{B:Type}{r:B->Prop}(hp:Pn p)(hk:k≠0):Og Ep ((X2 p k).bind fun y=>exC y (fun _=>(none:Option (Am B))) (fun e=>some (qK (e,c)))) r:=Z2e hp hk
theorem X7n{n:Nat}(h:S3 n):∀c x,Ck c->OkX x->2<=x.Kids.length->20*wE x+2<=n+1->Og Ep ((Q0l (n+1)).G5 c x) (QV c (6*wE x-2)):=by
 intro c x hc hx h2 hn;show Og Ep (A5 (Q0l n) c x) _;unfold A5
 dsimp only[jn]
 by_cases o1:x.Op=[38,38]
 . rw[c1 (dt o1)];exact Og.bind (h.both c 7 x hc hx h2 (by omega)) (fun y a=>Og.ok a) (fun e he=>Og.err he)
 rw[c0 (df o1)]
 by_cases o2:x.Op=[124,124]
 . rw[c1 (dt o2)];exact Og.bind (h.both c 8 x hc hx h2 (by omega)) (fun y a=>Og.ok a) (fun e he=>Og.err he)
 rw[c0 (df o2)];obtain⟨a,ha,ham⟩:=Q9d (k:=0) (show 0<x.Kids.length by omega);obtain⟨b,hb,hbm⟩:=Q9d (k:=1) (show 1<x.Kids.length by omega);have wa:=Z3s ham;have wb:=Z3s hbm;have pa:=Q3k a;have oa:=hx.kids a ham;have ob:=hx.kids b hbm;refine Og.step ha ?_;refine Og.step hb ?_;refine Og.bind (h.value c a hc oa (by omega)) (fun y3 a3=>?_) (fun e he=>Og.err he);refine Og.bind (h.value y3.2 b (hc.tg a3.1) ob (by omega)) (fun y4 a4=>?_) (fun e he=>Og.err he);have tg:=a3.1.trans a4.1;have da:=a3.2.mono (show 6*wE a<=6*wE x-6 by omega);have db:=a4.2.mono (show 6*wE b<=6*wE x-6 by omega);obtain⟨f,hf⟩:=Y7x x.Op;refine Og.step hf ?_;cases((y3.1.n==1)&&(y4.1.n==1))with
 |true=>exact Og.ok ⟨tg,Dp.k2 rfl da db (by omega)⟩
 |false=>
 rw[c0 (b:=false) rfl];cases((f==11)||(f==12))with
 |true=>exact Og.bind (equal_g a4.1.tab hx.e h2 (n:=6*wE x-6) (by omega) da db) (fun y q=>Og.ok ⟨tg,q.mono (by omega)⟩) (fun e he=>Og.err he)
 |false=>
 rw[c0 (b:=false) rfl];cases((f==1)&&(y3.1.n==1))with
 |true=>exact Og.bind (X5t a4.1.tab ob.pn db da f) (fun y q=>Og.ok ⟨tg,q.mono (by omega)⟩) (fun e he=>Og.err he)
 |false=>
 rw[c0 (b:=false) rfl];cases(((f==1)||(f==2))&&(y4.1.n==1))with
 |true=>exact Og.bind (X5t a4.1.tab oa.pn da db f) (fun y q=>Og.ok ⟨tg,q.mono (by omega)⟩) (fun e he=>Og.err he)
 |false=>
 rw[c0 (b:=false) rfl];cases(y3.1.n !=1)with
 |false=>rw[c0 (b:=false) rfl];exact Q1m ob.pn (by decide)
 |true=>
  rw[c1 (b:=true) rfl];obtain⟨p,hp⟩:=Q0w a4.1.tab y3.1.n;refine Og.step hp ?_;cases((!p)||((f !=1)&&(f !=2)))with
  |true=>rw[c1 (b:=true) rfl];exact Q1m oa.pn (by decide)
  |false=>rw[c0 (b:=false) rfl];exact Q1m ob.pn (by decide)
theorem X7o{n:Nat}(h:S3 n):∀c x,Ck c->OkX x->2<=x.Kids.length->x.Op≠[]->20*wE x+2<=n+1->Og Ep ((Q0l (n+1)).G6 c x) (QV c (6*wE x-2)):=by
 intro c x hc hx h2 ho hn;show Og Ep (A6 (Q0l n) c x) _;unfold A6
 dsimp only[jn]
 obtain⟨a,ha,ham⟩:=Q9d (k:=0) (show 0<x.Kids.length by omega);obtain⟨b,hb,hbm⟩:=Q9d (k:=1) (show 1<x.Kids.length by omega);have wa:=Z3s ham;have wb:=Z3s hbm;have pa:=Q3k a;have oa:=hx.kids a ham;have ob:=hx.kids b hbm;refine Og.step ha ?_;refine Og.step hb ?_;refine Og.bind (h.lying c a hc oa (by omega)) (fun y1 a1=>?_) (fun e he=>Og.err he);have da:=a1.2.mono (show 6*wE a-2<=6*wE x-6 by omega);refine Og.step (Q5r _ _) ?_;obtain⟨p,hp⟩:=Q0w a1.1.tab y1.1.n;refine Og.step hp ?_
 by_cases o1:x.Op=[61]
 . rw[c1 (dt o1)];refine Og.bind (h.value y1.2 b (hc.tg a1.1) ob (by omega)) (fun y4 a4=>?_) (fun e he=>Og.err he);have db:=a4.2.mono (show 6*wE b<=6*wE x-6 by omega);refine Og.bind (Z6l a4.1.tab ob.pn (n:=6*wE x-6) (by omega) db y1.1.n) (fun y5 a5=>?_) (fun e he=>Og.err he);obtain⟨k,hk⟩:=Z7p y4.2 y1.1.n;exact Og.step hk (Og.ok ⟨a1.1.trans a4.1,Dp.k2 rfl da a5 (by omega)⟩)
 rw[c0 (df o1)];have ol:1<=x.Op.length:=List.length_pos_iff.2 ho;have oq:x.Op.length<=70000:=match hx.e with| .mk _ _ o _ _ _ _=>o;rw[w64 (by omega),show((x.Op.length:Int)-1)=((x.Op.length-1:Nat):Int) by omega];refine Og.step (Z3h (b:=x.Op) (n:=x.Op.length-1) (by omega)) ?_;obtain⟨f,hf⟩:=Y7x (x.Op.take (x.Op.length-1));refine Og.step hf ?_
 have rest:∀t:Y9,U32 t.Num->Og Ep (((Q0l n).X7 y1.2 b).bind fun y11=>exE y11 (fun y11=>(E6 y11.2 y1.1.n).bind fun y12=>some (qX ((⟨y12,{t with Kids:=([y1.1.term,y11.1]:List Y9)},false⟩:Y0),y11.2)))) (QV c (6*wE x-2)):=fun t nu=>by
  refine Og.bind (h.number y1.2 b (hc.tg a1.1) ob (by omega)) (fun y4 a4=>?_) (fun e he=>Og.err he);obtain⟨k,hk⟩:=Z7p y4.2 y1.1.n;exact Og.step hk (Og.ok ⟨a1.1.trans a4.1,Dp.k2 rfl da (a4.2.mono (show 6*wE b<=6*wE x-6 by omega)) (by omega) nu⟩)
 cases p with
 |false=>exact rest (⟨16,f,0,0,false,szT y1.2.t y1.1.n,false,false,[]⟩:Y9) Z6n
 |true=>
  rw[c1 (b:=true) rfl];obtain⟨e,q,hq⟩:=Z6y a1.1.tab y1.1.n;refine Og.step hq ?_;cases((!q)||((f !=1)&&(f !=2)))with
  |true=>rw[c1 (b:=true) rfl];exact Q1m oa.pn (by decide)
  |false=>
   rw[c0 (b:=false) rfl];refine Og.step (Q5r _ _) ?_;exact rest (⟨16,f,qJ .u32 (szT y1.2.t e),0,false,szT y1.2.t y1.1.n,false,true,[]⟩:Y9) (Y1u _)
theorem step_s3{n:Nat}(h:S3 n):∀c x,Ck c->OkX x->1<=x.Kids.length->20*wE x+2<=n+1->Og Ep ((Q0l (n+1)).F8 c x) (QV c (6*wE x-2)):=by
 intro c x hc hx h1 hn;show Og Ep (O4 (Q0l n) c x) _;unfold O4
 dsimp only[jn]
 obtain⟨a,ha,ham⟩:=Q9d (k:=0) (show 0<x.Kids.length by omega);have wa:=Z3s ham;have pa:=Q3k a;have oa:=hx.kids a ham;refine Og.step ha ?_;refine Og.bind (h.lying c a hc oa (by omega)) (fun y1 a1=>?_) (fun e he=>Og.err he);have da:=a1.2.mono (show 6*wE a-2<=6*wE x-6 by omega);obtain⟨p,hp⟩:=Q0w a1.1.tab y1.1.n;obtain⟨k,hk⟩:=Z7p y1.2 y1.1.n
 have rest:∀m:Int,Og Ep ((K1 y1.2.t y1.1.n).bind fun y6=>(X4 y1.2 y1.1.n).bind fun y7=>(E6 y1.2 y1.1.n).bind fun y8=>some (qX ((⟨y8,(⟨15,0,qJ .u32 m,0,false,y6,x.Kind==11,y7,([y1.1.term]:List Y9)⟩:Y9),false⟩:Y0),y1.2))) (QV c (6*wE x-2)):=fun m=>by
  refine Og.step (Q5r _ _) ?_;refine Og.step hp ?_;exact Og.step hk (Og.ok ⟨a1.1,Dp.k1 rfl da (by omega)⟩)
 have both:∀m:Int,Og Ep (bif decide (x.Op=([45,45]:Aa))then((K1 y1.2.t y1.1.n).bind fun y6=>(X4 y1.2 y1.1.n).bind fun y7=>(E6 y1.2 y1.1.n).bind fun y8=>some (qX ((⟨y8,(⟨15,0,qJ .u32 (qJ .i64 (0-m)),0,false,y6,x.Kind==11,y7,([y1.1.term]:List Y9)⟩:Y9),false⟩:Y0),y1.2)))else((K1 y1.2.t y1.1.n).bind fun y6=>(X4 y1.2 y1.1.n).bind fun y7=>(E6 y1.2 y1.1.n).bind fun y8=>some (qX ((⟨y8,(⟨15,0,qJ .u32 m,0,false,y6,x.Kind==11,y7,([y1.1.term]:List Y9)⟩:Y9),false⟩:Y0),y1.2)))) (QV c (6*wE x-2)):=fun m=>by
  cases decide (x.Op=([45,45]:Aa))with
  |true=>exact rest _
  |false=>exact rest _
 refine Og.step hp ?_;cases p with
 |false=>exact both 1
 |true=>
  rw[c1 (b:=true) rfl];obtain⟨e,q,hq⟩:=Z6y a1.1.tab y1.1.n;refine Og.step hq ?_;cases q with
  |false=>rw[c1 (b:=!false) rfl];exact Q1m oa.pn (by decide)
  |true=>
   rw[c0 (b:=!true) rfl];refine Og.step (Q5r _ _) ?_;exact both _
theorem Dp.kk{n m:Nat}{t:Y9}(h:∀k∈t.Kids,Dp n k)(hm:n+1<=m)(nu:U32 t.Num:=by first|exact Z6n|exact Y1u _)(kl:t.Kids.length<=100000:=by simp):Dp m t:=Dp.mono (.mk h nu kl) hm
theorem d3{n:Nat}{a b c:Y9}(ha:Dp n a)(hb:Dp n b)(hc:Dp n c):∀k∈([a,b,c]:List Y9),Dp n k:=by
 intro k hk
 simp only[qZ,List.not_mem_nil,or_false]at hk
 rcases hk with rfl|rfl|rfl<;>assumption
theorem cond_s3{n:Nat}(h:S3 n):∀c x,Ck c->OkX x->3<=x.Kids.length->20*wE x+2<=n+1->Og Ep ((Q0l (n+1)).F9 c x) (QV c (6*wE x-2)):=by
 intro c x hc hx h3 hn;show Og Ep (O8 (Q0l n) c x) _;unfold O8
 dsimp only[jn]
 obtain⟨a,ha,ham⟩:=Q9d (k:=1) (show 1<x.Kids.length by omega);obtain⟨b,hb,hbm⟩:=Q9d (k:=2) (show 2<x.Kids.length by omega);obtain⟨q,hq,hqm⟩:=Q9d (k:=0) (show 0<x.Kids.length by omega);have wa:=Z3s ham;have wb:=Z3s hbm;have wq:=Z3s hqm;have oa:=hx.kids a ham;have ob:=hx.kids b hbm;have oq:=hx.kids q hqm;have pa:=Q3k a;refine Og.step ha ?_;refine Og.step hb ?_;refine Og.step hq ?_;refine Og.bind (h.asked c q hc oq (by omega)) (fun y1 a1=>?_) (fun e he=>Og.err he);refine Og.bind (h.value y1.2 a (hc.tg a1.1) oa (by omega)) (fun y2 a2=>?_) (fun e he=>Og.err he);refine Og.bind (h.value y2.2 b ((hc.tg a1.1).tg a2.1) ob (by omega)) (fun y3 a3=>?_) (fun e he=>Og.err he);have tg:=(a1.1.trans a2.1).trans a3.1;have tb:=a3.1.tab;have dq:=a1.2.mono (show 6*wE q<=6*wE x-6 by omega);have da:=a2.2.mono (show 6*wE a<=6*wE x-6 by omega);have db:=a3.2.mono (show 6*wE b<=6*wE x-6 by omega);obtain⟨v3,⟨c1',c2',c3',c4',c5',c6',c7'⟩⟩:=y3
 dsimp only at tg tb db⊢
 obtain⟨p,hp⟩:=Q0w (c:=⟨c1',c2',c3',c4',c5',c6',c7'⟩) tb y2.1.n;obtain⟨r,hr⟩:=Q0w (c:=⟨c1',c2',c3',c4',c5',c6',c7'⟩) tb v3.n;obtain⟨za,hza⟩:=Y0s a;obtain⟨zb,hzb⟩:=Y0s b;have hno:Q2o=some (⟨1,0,0,0,false,0,false,true,[]⟩:Y9):=rfl;have d0:Dp (6*wE x-6) (⟨1,0,0,0,false,0,false,true,[]⟩:Y9):=Dp.k0 rfl (by omega);have hwn:=Z6l (c:=⟨c1',c2',c3',c4',c5',c6',c7'⟩) tb ob.pn (n:=6*wE x-6) (by omega) db y2.1.n
 simp only[hp,hr,hza,hzb,hno,qV]
 cases p<;>cases r<;>cases za<;>cases zb<;>cases(y2.1.n==1)<;>cases(v3.n==1)<;>cases(y2.1.n==v3.n)<;>cases(y2.1.n !=1)<;>simp only[Ak,Aj,Bool.not_true,Bool.not_false,Bool.and_true,Bool.and_false]<;>first
  |exact Q1m oa.pn (by decide)
  |exact Q1m ob.pn (by decide)
  |exact Og.ok ⟨tg,Dp.kk (d3 dq da db) (by omega)⟩
  |exact Og.ok ⟨tg,Dp.kk (d3 dq d0 db) (by omega)⟩
  |exact Og.bind hwn (fun y6 a6=>Og.step rfl (Og.step rfl (Og.ok ⟨tg,Dp.kk (d3 dq da a6) (by omega)⟩))) (fun e he=>Og.err he)
  |exact Og.step rfl (Og.step rfl (Og.ok ⟨tg,Dp.kk (d3 dq d0 db) (by omega)⟩))
theorem X6u{n:Nat}(h:S3 n):∀c x,Ck c->OkX x->1<=x.Kids.length->20*wE x+2<=n+1->Og Ep ((Q0l (n+1)).G4 c x) (QV c (6*wE x-2)):=by
 intro c x hc hx h1 hn;show Og Ep (A2 (Q0l n) c x) _;unfold A2
 dsimp only[jn]
 obtain⟨a,ha,ham⟩:=Q9d (k:=0) (show 0<x.Kids.length by omega);have wa:=Z3s ham;have pa:=Q3k a;have oa:=hx.kids a ham;refine Og.step ha ?_;refine Og.bind (h.expr c a hc oa (by omega)) (fun y1 a1=>?_) (fun e he=>Og.err he);have da:=a1.2.mono (show 6*wE a-2<=6*wE x-6 by omega)
 have rest:∀(v:Y0)(c':Q0),Tg c c'->Dp (6*wE x-5) v.term->Og Ep ((C3 c'.t v.n).bind fun y5=>bif ((!v.lies)||(y5.1.Kind !=5))then((X2 a.Pos 5).bind fun y6=>exC y6 (fun y6=>none) (fun e3=>some (qK (e3,{c' with t:=c'.t}))))else((Q4c c'.t v.n x.Name).bind fun y7=>(S0 x.Pos y7.2).bind fun y8=>exC y8 (fun y8=>(K1 c'.t y7.1.Type_).bind fun y9=>some (qX ((⟨y7.1.Type_,(⟨13,0,qJ .u32 y7.1.At,0,false,y9,false,true,([v.term]:List Y9)⟩:Y9),true⟩:Y0),{c' with t:=c'.t}))) (fun e4=>some (qK (e4,{c' with t:=c'.t}))))) (QV c (6*wE x-2)):=by
  intro v c' tg dv;refine Og.step (Z5n tg.tab _) ?_;cases((!v.lies)||((tyT c'.t v.n).1.Kind !=5))with
  |true=>rw[c1 (b:=true) rfl];exact Q1m oa.pn (by decide)
  |false=>
   rw[c0 (b:=false) rfl];obtain⟨f,e,hf⟩:=X7a tg.tab v.n x.Name;refine Og.step hf ?_;refine X4l hx.pn fun _=>?_;refine Og.step (Q5r _ _) ?_;exact Og.ok ⟨tg,Dp.k1 rfl dv (by omega)⟩
 by_cases o1:x.Op=[45,62]
 . rw[c1 (dt o1)];refine Og.bind (X4a a1.1.tab oa.pn da) (fun y2 a2=>?_) (fun e he=>Og.err he);have tg:=a1.1.trans a2.1;have hb:=a2.1.back;obtain⟨e,q,hq⟩:=Z6y a2.1.tab y2.1.n;rw[hb];refine Og.step hq ?_;cases q with
   |false=>rw[c1 (b:=!false) rfl];exact Q1m oa.pn (by decide)
   |true=>
    rw[c0 (b:=!true) rfl];exact rest (⟨e,y2.1.term,true⟩:Y0) y2.2 tg (a2.2.mono (by omega))
 . rw[c0 (df o1)];exact rest y1.1 y1.2 a1.1 (da.mono (by omega))
theorem call_s3{n:Nat}(h:S3 n):∀c x,Ck c->OkX x->x.Kind=7->20*wE x+2<=n+1->Og Ep ((Q0l (n+1)).E0 c x) (QV c (6*wE x-2)):=by
 intro c x hc hx h7 hn;show Og Ep (O9 (Q0l n) c x) _;unfold O9
 dsimp only[jn]
 have px:=Q3k x
 by_cases o1:x.Name=[105,110]
 . rw[c1 (dt o1)];exact Og.ok ⟨Tg.refl hc.tab,Dp.k0 rfl (by omega)⟩
 rw[c0 (df o1)]
 by_cases o2:x.Name=[111,117,116]
 . rw[c1 (dt o2)];have h1:=hx.ex.2.1 h7 o2;obtain⟨a,ha,ham⟩:=Q9d (k:=0) (show 0<x.Kids.length by omega);have wa:=Z3s ham;refine Og.step ha ?_;exact Og.bind (h.number c a hc (hx.kids a ham) (by omega)) (fun y a1=>Og.ok ⟨a1.1,Dp.k1 (n:=6*wE x-6) rfl (a1.2.mono (by omega)) (by omega)⟩) (fun e he=>Og.err he)
 rw[c0 (df o2)];obtain⟨l,hl,hv⟩:=hc.co;have hg:P7 c.codes x.Name=Q9n l x.Name:=by unfold P7;rw[hl];rfl
 have main:∀b:Bool,(b=true->(P7 c.codes x.Name).isSome=true)->Og Ep (bif !b then((X2 x.Pos 4).bind fun y3=>exC y3 (fun y3=>none) (fun e2=>some (qK (e2,c))))else((idx c.signs ((P7 c.codes x.Name).getD 0)).bind fun u6=>(X4 c u6.ret).bind fun y4=>(loopM (fun(x12,x13,x14,x15)=>(bif decide (x12<(qQ x.Kids:Int))then((idx x.Kids x12).bind fun u7=>((Q0l n).Z3 ({x14 with t:=x15}) u7).bind fun y5=>exL y5 (fun y5=>bif decide (x12<(qQ u6.params:Int))then((idx u6.params x12).bind fun u8=>(N3 y5.2 u7 y5.1 u8).bind fun y6=>exC y6 (fun y6=>(Q1d (qQ x13.Kids+qQ ([y6]:List Y9))).bind fun _=>some (Lp.go (qJ .i64 (x12+1),({x13 with Kids:=x13.Kids++([y6]:List Y9)}:Y9),({y5.2 with t:=y5.2.t}:Q0),y5.2.t))) (fun e3=>some (Lp.ret (qK (e3,y5.2)))))else(some (Lp.go (qJ .i64 (x12+1),x13,({y5.2 with t:=y5.2.t}:Q0),y5.2.t)))))else(some (Lp.brk (x12,x13,({x14 with t:=x15}:Q0),x15))):Option (Lp (Int×Y9×Q0×Z9) (Am (Y0×Q0))))) NN ((0:Int),(⟨10,0,0,(P7 c.codes x.Name).getD 0,false,0,false,y4,[]⟩:Y9),c,c.t)).bind fun o=>o.thn (fun(x12,x13,x14,x15)=>bif (qQ x.Kids:Int)!=(qQ u6.params:Int)then((X2 x.Pos 5).bind fun y7=>exC y7 (fun y7=>none) (fun e5=>some (qK (e5,{x14 with t:=x15}))))else((E6 ({x14 with t:=x15}) u6.ret).bind fun y8=>some (qX ((⟨y8,x13,false⟩:Y0),{x14 with t:=x15})))) (fun r=>some r))) (QV c (6*wE x-2)):=by
  intro b hb;cases b with
  |false=>rw[c1 (b:=!false) rfl];exact Q1m hx.pn (by decide)
  |true=>
  rw[c0 (b:=!true) rfl];have hs:=hb rfl;rw[hg]at hs⊢;obtain⟨v,hv2⟩:=Option.isSome_iff_exists.1 hs;rw[hv2];obtain⟨s,hs2,hsm⟩:=S7 (hv _ _ hv2);refine Og.step hs2 ?_;obtain⟨p,hp⟩:=Q0w hc.tab s.ret;refine Og.step hp ?_;have hk:=Q1u Q3k x.Kids;have hw:=Y6u x;have hxw:=hx.w;have hkl:x.Kids.length<=10000:=by omega
  refine Og.loop (fun s=>0<=s.1/\s.1<=x.Kids.length/\s.2.1.Kids.length<=s.1/\(∀k∈s.2.1.Kids,Dp (6*wE x-5) k)/\U32 s.2.1.Num/\Tg c {s.2.2.1 with t:=s.2.2.2}) (fun s=>x.Kids.length-s.1.toNat) ⟨qC 0,by dsimp only;omega,by simp,fun k hk=>(by cases hk),Z6n,Tg.refl hc.tab⟩ (by dsimp only;omega) ?_;rintro⟨x12,x13,x14,x15⟩ ⟨i1,i2,i3,i4,i6,i5⟩
  dsimp only at i1 i2 i3 i4 i5 i6⊢
  by_cases hlt:x12<x.Kids.length
  . rw[c1 (dt hlt)];obtain⟨k,hk1,hkm⟩:=S7 ⟨i1,hlt⟩;have wk:=Z3s hkm;have pk:=Q3k k;have ok:=hx.kids k hkm;refine Rn.step hk1 ?_;refine Rn.bindG (h.value _ k (hc.tg i5) ok (by omega)) (fun y5 a5=>?_) (fun e he=>Rn.ok (Og.err he));have tg:=i5.trans a5.1
    by_cases hp2:x12<s.params.length
    . rw[c1 (dt hp2)];obtain⟨q,hq,_⟩:=S7 ⟨i1,hp2⟩;refine Rn.step hq ?_;refine Rn.bindG (X2v a5.1.tab ok.pn (n:=6*wE x-6) (by omega) (a5.2.mono (by omega)) q) (fun y6 a6=>?_) (fun e he=>Rn.ok (Og.err he));refine Rn.step (M9 (by simp;omega)) ?_;refine Rn.ok ⟨⟨by dsimp only;rw[w64 (by omega)];omega,by dsimp only;rw[w64 (by omega)];omega,by dsimp only;rw[w64 (by omega),qW];simp;omega,?_,i6,tg⟩,by dsimp only;rw[w64 (by omega)];omega⟩;intro z hz
      rcases jQ.1 hz with hz|hz
      . exact i4 z hz
      . rw[kQ.1 hz];exact a6.mono (by omega)
    . rw[c0 (df hp2)];exact Rn.ok ⟨⟨by dsimp only;rw[w64 (by omega)];omega,by dsimp only;rw[w64 (by omega)];omega,by dsimp only;rw[w64 (by omega)];omega,i4,i6,tg⟩,by dsimp only;rw[w64 (by omega)];omega⟩
  . rw[c0 (df hlt)];refine Rn.ok ?_;show Og Ep (bif (qQ x.Kids:Int)!=(qQ s.params:Int)then _ else _) _;cases((x.Kids.length:Int)!=(s.params.length:Int))with
    |true=>rw[c1 (b:=true) rfl];exact Q1m hx.pn (by decide)
    |false=>
     rw[c0 (b:=false) rfl];obtain⟨k,hk⟩:=Z7p {x14 with t:=x15} s.ret;exact Og.step hk (Og.ok ⟨i5,Dp.kk i4 (by omega) i6 (by dsimp only;omega)⟩)
 have hf:=hc.fn;cases hfn:c.fun_ with
 |nil=>exact main _ fun e=>e
 |dead=>rw[hfn]at hf;exact hf.elim
 |some f=>
  rw[hfn]at hf;refine Og.step (x:=false) rfl ?_;rw[c1 (b:=!false) rfl];refine Og.step (x:=f) rfl ?_;obtain⟨v,b,hy,_⟩:=find_g hf x.Name;refine Og.step hy ?_;cases b with
  |true=>exact main false fun e=>by cases e
  |false=>exact main _ fun e=>e
theorem expr_s3{n:Nat}(h:S3 n):∀c x,Ck c->OkX x->20*wE x+3<=n+1->Og Ep ((Q0l (n+1)).V5 c x) (QV c (6*wE x-2)):=by
 intro c x hc hx hn;show Og Ep (O7 (Q0l n) c x) _;unfold O7
 dsimp only[jn]
 have px:=Q3k x;have har:=hx.ar
 by_cases k1:x.Kind=1
 . rw[c1 (by rw[k1];rfl)];exact Og.ok ⟨Tg.refl hc.tab,Dp.k0 rfl (by omega) hx.e.nu⟩
 rw[c0 (by simpa using k1)]
 by_cases k2:x.Kind=2
 . rw[c1 (by rw[k2];rfl)];exact Og.bind (name_g hc hx.pn) (fun y a=>Og.ok ⟨by dsimp only;rw[a.1];exact Tg.refl hc.tab,a.2.mono (by omega)⟩) (fun e he=>Og.err he)
 rw[c0 (by simpa using k2)]
 by_cases k3:x.Kind=3
 . rw[c1 (by rw[k3];rfl)];rw[k3]at har;exact Og.bind (h.unary c x hc hx har (by omega)) (fun y a=>Og.ok a) (fun e he=>Og.err he)
 rw[c0 (by simpa using k3)]
 by_cases k4:x.Kind=4
 . rw[c1 (by rw[k4];rfl)];rw[k4]at har;exact Og.bind (h.binary c x hc hx har (by omega)) (fun y a=>Og.ok a) (fun e he=>Og.err he)
 rw[c0 (by simpa using k4)]
 by_cases k5:x.Kind=5
 . rw[c1 (by rw[k5];rfl)];rw[k5]at har;exact Og.bind (h.assign c x hc hx har (hx.ex.2.2 k5) (by omega)) (fun y a=>Og.ok a) (fun e he=>Og.err he)
 rw[c0 (by simpa using k5)]
 by_cases k6:x.Kind=6
 . rw[c1 (by rw[k6];rfl)];rw[k6]at har;exact Og.bind (h.cond c x hc hx har (by omega)) (fun y a=>Og.ok a) (fun e he=>Og.err he)
 rw[c0 (by simpa using k6)]
 by_cases k7:x.Kind=7
 . rw[c1 (by rw[k7];rfl)];exact Og.bind (h.call c x hc hx k7 (by omega)) (fun y a=>Og.ok a) (fun e he=>Og.err he)
 rw[c0 (by simpa using k7)]
 by_cases k8:x.Kind=8
 . rw[c1 (by rw[k8];rfl)];rw[k8]at har;have har:2<=x.Kids.length:=har;obtain⟨a,ha,ham⟩:=Q9d (k:=0) (show 0<x.Kids.length by omega);obtain⟨b,hb,hbm⟩:=Q9d (k:=1) (show 1<x.Kids.length by omega);have wa:=Z3s ham;have wb:=Z3s hbm;have oa:=hx.kids a ham;have ob:=hx.kids b hbm;refine Og.step ha ?_;refine Og.bind (h.value c a hc oa (by omega)) (fun y7 a7=>?_) (fun e he=>Og.err he);obtain⟨e,q,hq⟩:=Z6y a7.1.tab y7.1.n;refine Og.step hq ?_;cases q with
   |false=>rw[c1 (b:=!false) rfl];exact Og.step ha (Q1m oa.pn (by decide))
   |true=>
    rw[c0 (b:=!true) rfl];refine Og.step hb ?_;refine Og.bind (h.number y7.2 b (hc.tg a7.1) ob (by omega)) (fun y10 a10=>?_) (fun e he=>Og.err he);obtain⟨s,p,hi⟩:=Y1r a10.1.tab y7.1.term y10.1 e 1;exact Og.step hi (Og.ok ⟨a7.1.trans a10.1,Dp.k2 (n:=6*wE x-6) rfl (a7.2.mono (by omega)) (a10.2.mono (by omega)) (by omega)⟩)
 rw[c0 (by simpa using k8)]
 by_cases k9:x.Kind=9
 . rw[c1 (by rw[k9];rfl)];rw[k9]at har;exact Og.bind (h.member c x hc hx har (by omega)) (fun y a=>Og.ok a) (fun e he=>Og.err he)
 rw[c0 (by simpa using k9)]
 have sz:Og Ep ((F2 c x.Pos x.Type_).bind fun y14=>exC y14 (fun y14=>(K1 y14.2.t y14.1).bind fun y15=>bif y15==0 then((X2 x.Pos 5).bind fun y16=>exC y16 (fun y16=>none) (fun e12=>some (qK (e12,{y14.2 with fun_:=c.fun_}))))else((K1 y14.2.t y14.1).bind fun y17=>some (qX ((⟨1,(⟨1,0,qJ .u32 y17,0,false,0,false,false,[]⟩:Y9),false⟩:Y0),{y14.2 with fun_:=c.fun_})))) (fun e13=>some (qK (e13.1,{e13.2 with fun_:=c.fun_})))) (QV c (6*wE x-2)):=by
  refine Og.bind (Y3r hc.tab hx.pn hx.ty) (fun y a=>?_) (fun e he=>Og.err he);refine Og.step (Q5r _ _) ?_;cases(szT y.2.t y.1==0)with
  |true=>rw[c1 (b:=true) rfl];exact Q1m hx.pn (by decide)
  |false=>
   rw[c0 (b:=false) rfl];refine Og.step (Q5r _ _) ?_;exact Og.ok ⟨by dsimp only;rw[a.back];exact a,Dp.k0 rfl (by omega)⟩
 by_cases k10:x.Kind=10
 . rw[c1 (by rw[k10];rfl),c1 (by rw[k10];rfl)];rw[k10]at har;exact Og.bind (h.step c x hc hx har (by omega)) (fun y a=>Og.ok a) (fun e he=>Og.err he)
 rw[c0 (by simpa using k10)]
 by_cases k11:x.Kind=11
 . rw[c1 (by rw[k11];rfl)];rw[k11]at har;exact Og.bind (h.step c x hc hx har (by omega)) (fun y a=>Og.ok a) (fun e he=>Og.err he)
 rw[c0 (by simpa using k11)];exact sz
theorem Y0h:∀n,S3 n
 |0=>⟨fun _ _ _ _ h=>by omega,fun _ _ _ _ h=>by omega,fun _ _ _ _ _ h=>by omega,fun _ _ _ _ _ _ h=>by omega,fun _ _ _ _ _ h=>by omega,fun _ _ _ _ h=>by omega,fun _ _ _ _ _ _ h=>by omega,fun _ _ _ _ _ h=>by omega,fun _ _ _ _ _ h=>by omega,fun _ _ _ _ _ h=>by omega,fun _ _ _ _ _ h=>by omega,fun _ _ _ _ h=>by omega,fun _ _ _ _ h=>by omega⟩
 |n+1=>⟨asked_s3 (Y0h n),X6s (Y0h n),unary_s3 (Y0h n),both_s3 (Y0h n),X7n (Y0h n),lying_s3 (Y0h n),X7o (Y0h n),cond_s3 (Y0h n),call_s3 (Y0h n),X6u (Y0h n),step_s3 (Y0h n),expr_s3 (Y0h n),value_s3 (Y0h n)⟩
theorem i32_nz{b:Int}(h:U32 b)(h0:b≠0):qJ .i64 (qJ .i32 b)≠0:=by
 unfold U32 at h
 simp only[qJ,IntKind.signed,IntKind.bits]
 simp
 omega
theorem Y4a(k:Int):∃m,Q4o k=some m/\(m<=3):=by
 unfold Q4o
 dsimp only[jn]
 cases(k==1)<;>cases(k==5)<;>cases(k==17)<;>cases(k==6)<;>cases(k==7)<;>cases(k==8)<;>cases(k==9)<;>exact⟨_,rfl,by decide⟩
theorem Y0r:∀(n:Nat)(m:Nat)(t:Y9),Dp n t->n<=m->∃b,(Y4v m).B8 t=some b
 |0,_,_,h,_=>by cases h
 |n+1,0,_,_,h=>by omega
 |n+1,m+1,t,.mk hk nu _,h=>by
  show∃b,Q3l (Y4v m) t=some b
  unfold Q3l
  obtain⟨k,hk1,hk2⟩:=Y4a t.Kind
  rw[hk1,qV]
  by_cases hl:(t.Kids.length:Int)=k
  . rw[c0 (by simpa using hl)]
    refine Exists.elim (Q4b (body:=fun(x1:Int)=>(bif decide (x1<(qQ t.Kids:Int))then((idx t.Kids x1).bind fun u1=>((Y4v m).B8 u1).bind fun y2=>bif !y2 then(some (Lp.ret false))else(some (Lp.go (qJ .i64 (x1+1)))))else(some (Lp.brk x1)):Option (Lp (Int) (Bool)))) (n:=NN) (s:=0) (fun s=>0<=s/\s<=t.Kids.length) (fun s=>t.Kids.length-s.toNat) (fun o=>(∃s,o= .brk s)\/∃r,o= .ret r) ⟨by omega,by omega⟩ (Z1i (by omega)) ?_) ?_
    . rintro s ⟨s0,s1⟩
      by_cases hs:s<t.Kids.length
      . rw[c1 (dt hs)]
        obtain⟨x,hx,hxm⟩:=S7 ⟨s0,hs⟩
        obtain⟨b,hb⟩:=Y0r n m x (hk x hxm) (by omega)
        rw[hx,qV,hb,qV]
        cases b with
        |false=>exact⟨_,rfl,.inr ⟨_,rfl⟩⟩
        |true=>exact⟨_,rfl,⟨by rw[w64 (by omega)];omega,by rw[w64 (by omega)];omega⟩,by rw[w64 (by omega)];omega⟩
      . rw[c0 (df hs)];exact⟨_,rfl,.inl ⟨_,rfl⟩⟩
    . rintro o ⟨ho,hp⟩
      rw[ho,qV]
      rcases hp with⟨s,rfl⟩|⟨r,rfl⟩<;>exact⟨_,rfl⟩
  . rw[c1 (by simpa using hl)]
    exact⟨_,rfl⟩
theorem u32b(op:BinOp)(a b:Int):U32 (bits op .u32 a b):=Y1u _
theorem u1:U32 1:=⟨by decide,by decide⟩
theorem Y4r(b:Bool):∃y,Q8e b=some y/\U32 y:=by
 unfold Q8e;cases b with
 |true=>exact⟨1,rfl,u1⟩
 |false=>exact⟨0,rfl,Z6n⟩
theorem X2q(a b:Int):∃y,Z1j a b=some y/\U32 y:=by
 unfold Z1j Y3k;cases decide (qJ .i32 a<qJ .i32 b)with
 |true=>exact⟨1,rfl,u1⟩
 |false=>exact⟨0,rfl,Z6n⟩
theorem X3b(f a b:Int):∃y e,Z0j f a b=some (y,e)/\U32 y:=by
 unfold Z0j;obtain⟨y1,h1,u1'⟩:=Y4r (a==b);obtain⟨y2,h2,u2'⟩:=Y4r (a !=b);obtain⟨y3,h3,u3'⟩:=X2q a b;obtain⟨y4,h4,u4'⟩:=X2q b a;rw[h1,h2,h3,h4]
 cases(f==11)<;>cases(f==12)<;>cases(f==13)<;>cases(f==14)<;>cases(f==15)<;>cases(f==16)<;>first
  |exact⟨_,_,rfl,u1'⟩
  |exact⟨_,_,rfl,u2'⟩
  |exact⟨_,_,rfl,u3'⟩
  |exact⟨_,_,rfl,u4'⟩
  |exact⟨_,_,rfl,Y1u _⟩
  |exact⟨_,_,rfl,Z6n⟩
theorem div_any{a b:Int}(hb:U32 b):∃y,Z9u a b=some y/\U32 y:=by
 unfold Z9u
 by_cases h:b=0
 . rw[c1 (by rw[h];rfl)];exact⟨_,rfl,by unfold U32;decide⟩
 . rw[c0 (by simpa using h)];unfold Z5m Z7h;rw[show nz (qJ .i64 (qJ .i32 b))=some () by unfold nz;rw[if_neg (i32_nz hb h)]];exact⟨_,rfl,Y1u _⟩
theorem rem_any{a b:Int}(ha:U32 a)(hb:U32 b):∃y,Z9s a b=some y/\U32 y:=by
 unfold Z9s
 by_cases h:b=0
 . rw[c1 (by rw[h];rfl)];exact⟨_,rfl,ha⟩
 . rw[c0 (by simpa using h)];unfold Z3b Z7g;rw[show nz (qJ .i64 (qJ .i32 b))=some () by unfold nz;rw[if_neg (i32_nz hb h)]];exact⟨_,rfl,Y1u _⟩
theorem X0a(f:Int){a b:Int}(ha:U32 a)(hb:U32 b):∃y e,Q9i f a b=some (y,e)/\U32 y:=by
 unfold Q9i
 dsimp only[jn]
 have hnn:nn (bits .and .u32 b 31)=some ():=by unfold nn;rw[if_pos (u32b _ _ _).1]
 have hL:∃y,Z6k a b=some y/\U32 y:=by
  unfold Z6k;rw[hnn];exact⟨_,rfl,Y1u _⟩
 have hR:∃y,Z3f a b=some y/\U32 y:=by
  unfold Z3f;rw[hnn];exact⟨_,rfl,Y1u _⟩
 obtain⟨yl,hl,ul⟩:=hL;obtain⟨yr,hr,ur⟩:=hR;obtain⟨yd,hd,ud⟩:=div_any (a:=a) hb;obtain⟨ym,hm,um⟩:=rem_any ha hb;obtain⟨yb,hbt,ub⟩:=Y4r (a==0);obtain⟨yc,ec,hc,uc⟩:=X3b f a b;rw[hl,hr,hd,hm,hbt,hc]
 have fin:∀{c:Bool}{X Y:Option (Int×Int)},(∃y e,X=some (y,e)/\U32 y)->(∃y e,Y=some (y,e)/\U32 y)->∃y e,(bif c then X else Y)=some (y,e)/\U32 y:=by
  intro c X Y h k;cases c<;>assumption
 repeat'(first
  |exact⟨_,_,rfl,Y1u _⟩
  |exact⟨_,_,rfl,u32b _ _ _⟩
  |exact⟨_,_,rfl,Z6n⟩
  |exact⟨_,_,rfl,ul⟩
  |exact⟨_,_,rfl,ur⟩
  |exact⟨_,_,rfl,ud⟩
  |exact⟨_,_,rfl,um⟩
  |exact⟨_,_,rfl,ub⟩
  |exact⟨_,_,rfl,uc⟩
  |refine fin ?_ ?_)
theorem X0r{n m:Nat}{t:Y9}(hd:Dp (n+1) t)(hm:n<=m)(h:(Y4v (m+1)).B8 t=some true):Q4o t.Kind=some (t.Kids.length:Int)/\∀x∈t.Kids,(Y4v m).B8 x=some true:=by
 cases hd with
 |mk hk nu _=>
 have h:Q3l (Y4v m) t=some true:=h;unfold Q3l at h;obtain⟨k,hk1,hk2⟩:=Y4a t.Kind;rw[hk1,qV]at h
 by_cases hl:(t.Kids.length:Int)=k
 . rw[c0 (by simpa using hl)]at h;refine⟨by rw[hk1,hl],?_⟩
   have key:=loop_all (R:=Bool) (A:=Bool) (body:=fun(x1:Int)=>(bif decide (x1<(qQ t.Kids:Int))then((idx t.Kids x1).bind fun u1=>((Y4v m).B8 u1).bind fun y2=>bif !y2 then(some (Lp.ret false))else(some (Lp.go (qJ .i64 (x1+1)))))else(some (Lp.brk x1)):Option (Lp (Int) (Bool)))) (f:=fun o=>o.thn (fun(x1:Int)=>some true) (fun r=>some r)) (n:=t.Kids.length) (X:=some (decide (∀k (hk:k<t.Kids.length),(Y4v m).B8 t.Kids[k]=some true))) (by omega)
    (fun k=>if hk:k<t.Kids.length then decide ((Y4v m).B8 t.Kids[k]=some true)else false) false
    (fun k hk2 _=>by
     rw[c1 (dlt hk2),E8 hk2,qV,dif_pos hk2];obtain⟨b,hb⟩:=Y0r n m t.Kids[k] (hk _ (jT hk2)) hm;rw[hb,qV];cases b<;>rfl)
    (by rw[c0 (dge _)])
    (fun hall=>by
     show some true=_
     congr 1
     symm
     refine decide_eq_true fun k hk2=>?_;have:=hall k hk2;rw[dif_pos hk2]at this;exact of_decide_eq_true this)
    (fun⟨k,hk2,hp⟩=>by
     show some false=_
     congr 1
     symm
     refine decide_eq_false fun hall=>?_;rw[dif_pos hk2]at hp;exact absurd (hall k hk2) (of_decide_eq_false hp))
   rw[key]at h;have hall:=of_decide_eq_true (Option.some.inj h);intro x hx;obtain⟨k,hk2,rfl⟩:=List.getElem_of_mem hx;exact hall k hk2
 . rw[c1 (by simpa using hl)]at h;cases h
theorem X2w:∀(n m M:Nat)(t:Y9),Dp n t->n<=m->n<=M->(Y4v M).B8 t=some true->∃y e,(rec5 m).L5 t=some (y,e)/\U32 y
 |0,_,_,_,h,_,_,_=>by cases h
 |n+1,0,_,_,_,h,_,_=>by omega
 |n+1,m+1,0,_,_,_,h,_=>by omega
 |n+1,m+1,M+1,t,hd,hm,hM,hn=>by
  obtain⟨ho,hk⟩:=X0r hd (by omega) hn
  obtain⟨dk,nu⟩:(∀k∈t.Kids,Dp n k)/\U32 t.Num:=match hd with| .mk a b _=>⟨a,b⟩
  show∃y e,Z2f (rec5 m) t=some (y,e)/\U32 y
  unfold Z2f
  dsimp only[jn]
  by_cases k1:t.Kind=1
  . rw[c1 (by rw[k1];rfl)];exact⟨_,_,rfl,nu⟩
  rw[c0 (by simpa using k1)]
  have kid:∀j:Nat,j<t.Kids.length->∃x y e,idx t.Kids (j:Int)=some x/\(rec5 m).L5 x=some (y,e)/\U32 y:=fun j hj=>by
   obtain⟨y,e,h1,h2⟩:=X2w n m M t.Kids[j] (dk _ (jT hj)) (by omega) (by omega) (hk _ (jT hj))
   exact⟨_,y,e,E8 hj,h1,h2⟩
  have hlen:(t.Kind=5\/t.Kind=17)/\t.Kids.length=1\/(t.Kind=6\/t.Kind=7\/t.Kind=8)/\t.Kids.length=2\/t.Kind=9/\t.Kids.length=3:=by
   unfold Q4o at ho
   dsimp only[jn]at ho
   by_cases a5:t.Kind=5
   . rw[a5]at ho;exact .inl ⟨.inl a5,by have:=Option.some.inj ho;omega⟩
   by_cases a17:t.Kind=17
   . rw[a17]at ho;exact .inl ⟨.inr a17,by have:=Option.some.inj ho;omega⟩
   by_cases a6:t.Kind=6
   . rw[a6]at ho;exact .inr (.inl ⟨.inl a6,by have:=Option.some.inj ho;omega⟩)
   by_cases a7:t.Kind=7
   . rw[a7]at ho;exact .inr (.inl ⟨.inr (.inl a7),by have:=Option.some.inj ho;omega⟩)
   by_cases a8:t.Kind=8
   . rw[a8]at ho;exact .inr (.inl ⟨.inr (.inr a8),by have:=Option.some.inj ho;omega⟩)
   by_cases a9:t.Kind=9
   . rw[a9]at ho;exact .inr (.inr ⟨a9,by have:=Option.some.inj ho;omega⟩)
   . rw[beq_eq_false_iff_ne.2 k1,beq_eq_false_iff_ne.2 a5,beq_eq_false_iff_ne.2 a17,beq_eq_false_iff_ne.2 a6,beq_eq_false_iff_ne.2 a7,beq_eq_false_iff_ne.2 a8,beq_eq_false_iff_ne.2 a9]at ho;have:=Option.some.inj ho;omega
  obtain⟨x0,y0,e0,h0,f0,u0⟩:=kid 0 (by omega);rw[show idx t.Kids 0=some x0 from h0,qV,f0,qV]
  dsimp only
  by_cases he:e0=0
  case neg=>rw[c1 (by simpa using he)];exact⟨_,_,rfl,Z6n⟩
  rw[c0 (by rw[he];rfl)]
  have two:2<=t.Kids.length->∃y e,((idx t.Kids 1).bind fun u4=>((rec5 m).L5 u4).bind fun y6=>bif y6.2 !=0 then(some ((0:Int),y6.2))else(bif t.Kind !=6 then((Q8e (y6.1 !=0)).bind fun y7=>some (y7,(0:Int)))else((Q9i t.Fn y0 y6.1).bind fun y8=>some (y8.1,y8.2))))=some (y,e)/\U32 y:=fun h2=>by
   obtain⟨x1,y1,e1,h1,f1,u1'⟩:=kid 1 (by omega);rw[show idx t.Kids 1=some x1 from h1,qV,f1,qV]
   dsimp only
   cases(e1 !=0)with
   |true=>exact⟨_,_,rfl,Z6n⟩
   |false=>
    obtain⟨b,hb,ub⟩:=Y4r (y1 !=0);obtain⟨ya,ea,ha,ua⟩:=X0a t.Fn u0 u1';rw[hb,ha];cases(t.Kind !=6)with
    |true=>exact⟨_,_,rfl,ub⟩
    |false=>exact⟨_,_,rfl,ua⟩
  obtain⟨b0,hb0,ub0⟩:=Y4r (y0 !=0)
  rcases hlen with⟨a|a,hl⟩|⟨a|a|a,hl⟩|⟨a,hl⟩<;>rw[a]at two⊢
  . obtain⟨ya,ea,ha,ua⟩:=X0a t.Fn u0 Z6n;rw[ha];exact⟨_,_,rfl,ua⟩
  . exact⟨_,_,rfl,u32b _ _ _⟩
  . exact two (by omega)
  . rw[hb0];cases hq:((y0 !=0)==((7:Int)==8))with
    |true=>exact⟨b0,0,by simp[],ub0⟩
    |false=>
     have:=two (by omega)
     simpa[hq]using this
  . rw[hb0];cases hq:((y0 !=0)==((8:Int)==8))with
    |true=>exact⟨b0,0,by simp[],ub0⟩
    |false=>
     have:=two (by omega)
     simpa[hq]using this
  . obtain⟨x1,y1,e1,h1,f1,u1'⟩:=kid 1 (by omega);obtain⟨x2,y2,e2,h2,f2,u2'⟩:=kid 2 (by omega);rw[show idx t.Kids 1=some x1 from h1,show idx t.Kids 2=some x2 from h2,qV,qV,f1,f2];cases(y0 !=0)with
    |true=>exact⟨_,_,rfl,u1'⟩
    |false=>exact⟨_,_,rfl,u2'⟩
theorem Fold_any{n:Nat}{t:Y9}(h:Dp n t)(hn:n<=NN):∃y e,Z5i t=some (y,e)/\U32 y:=by
 unfold Z5i;obtain⟨b,hb⟩:=Y0r n NN t h hn;rw[show B8 t=some b from hb,qV];cases b with
 |false=>exact⟨_,_,rfl,Z6n⟩
 |true=>
  obtain⟨y,e,hf,hu⟩:=X2w n NN NN t h hn hn hb;rw[c0 (b:=!true) rfl,show L5 t=some (y,e)from hf];exact⟨_,_,rfl,hu⟩
theorem Y1m{c:Q0}(hc:Ck c){x:Z5}(hx:OkX x):Og Ep (Z3 c x) (QV c (6*wE x)):=(Y0h NN).value c x hc hx (by have:=hx.w;unfold NN;omega)
theorem expr_any{c:Q0}(hc:Ck c){x:Z5}(hx:OkX x):Og Ep (V5 c x) (QV c (6*wE x-2)):=(Y0h NN).expr c x hc hx (by have:=hx.w;unfold NN;omega)
theorem Y9y{c:Q0}(hc:Ck c){x:Z5}(hx:OkX x):Og Ep (V3 c x) (QT c (6*wE x)):=(Y0h NN).asked c x hc hx (by have:=hx.w;unfold NN;omega)
theorem X4j{c:Q0}(hc:Ck c){x:Z5}(hx:OkX x):Og Ep (X7 c x) (QT c (6*wE x)):=(Y0h NN).number c x hc hx (by have:=hx.w;unfold NN;omega)
theorem sz_in{t:Z9}{n:Int}(h:szT t n≠0):0<=n/\n<t.list.length:=by
 by_cases h0:0<=n/\n<t.list.length
 . exact h0
 . exact absurd (by unfold szT;rw[Z6w h0]) h
theorem Gr.ty{t t':Z9}(h:Gr t t'){n:Int}(hn:0<=n/\n<t.list.length):tyT t' n=tyT t n:=by
 obtain⟨x,hx,_⟩:=S7 hn;unfold tyT;rw[h.idx hx,hx]
theorem Gr.pa{t t':Z9}(h:Gr t t'){n:Int}(hn:0<=n/\n<t.list.length):paT t' n=paT t n:=by
 unfold paT;rw[h.ty hn]
theorem X7i(w b:Int)(k:Int)(l:List Int)(hk:0<=k/\k<=100000)(hw:0<=w/\w<=32768)(hl:w=0\/w*k+w<=l.length)(hk2:w*k<=100000000)(hkw:0<=w*k):∃l2 x,loopM (fun(x26,x27)=>(bif decide (x27<w)then((nn (qJ .i64 (8*x27))).bind fun _=>(idx x26 (qJ .i64 ((qJ .i64 (w*k))+x27))).bind fun u5=>(idx x26 (qJ .i64 ((qJ .i64 (w*k))+x27))).bind fun u6=>some (Lp.go (qP x26 (qF (qJ .i64 ((qJ .i64 (w*k))+x27))) (qJ .u8 (Int.fdiv b (2^(min (qF (qJ .i64 (8*x27))) (IntKind.bits .u32))))),qJ .i64 (x27+1))))else(some (Lp.brk (x26,x27))):Option (Lp ((List Int)×Int) (Unit)))) NN (l,(0:Int))=some (.brk (l2,x))/\l2.length=l.length:=by
 refine Exists.elim (Q4b (body:=fun(x26,x27)=>(bif decide (x27<w)then((nn (qJ .i64 (8*x27))).bind fun _=>(idx x26 (qJ .i64 ((qJ .i64 (w*k))+x27))).bind fun u5=>(idx x26 (qJ .i64 ((qJ .i64 (w*k))+x27))).bind fun u6=>some (Lp.go (qP x26 (qF (qJ .i64 ((qJ .i64 (w*k))+x27))) (qJ .u8 (Int.fdiv b (2^(min (qF (qJ .i64 (8*x27))) (IntKind.bits .u32))))),qJ .i64 (x27+1))))else(some (Lp.brk (x26,x27))):Option (Lp ((List Int)×Int) (Unit)))) (n:=NN) (s:=(l,(0:Int))) (fun s=>s.1.length=l.length/\0<=s.2/\s.2<=w) (fun s=>w.toNat-s.2.toNat) (fun o=>∃l2 x,o= .brk (l2,x)/\l2.length=l.length) ⟨rfl,qC 0,by dsimp only;omega⟩ (Z1i (by dsimp only;omega)) ?_) ?_
 . rintro⟨x26,x27⟩ ⟨i1,i2,i3⟩
   dsimp only at i1 i2 i3⊢
   by_cases hs:x27<w
   . rw[c1 (dt hs),w64 (x:=8*x27) (by omega),show nn (8*x27)=some () by unfold nn;rw[if_pos (by omega)],qV,w64 (x:=w*k) (by omega),w64 (x:=w*k+x27) (by omega)];obtain⟨q,hq,_⟩:=S7 (l:=x26) (n:=w*k+x27) ⟨by omega,by rw[i1];rcases hl with hl|hl<;>omega⟩
     rw[hq,qV,qV];exact⟨_,rfl,⟨by simpa using i1,by dsimp only;rw[w64 (by omega)];omega,by dsimp only;rw[w64 (by omega)];omega⟩,by dsimp only;rw[w64 (by omega)];omega⟩
   . rw[c0 (df hs)];exact⟨_,rfl,_,_,rfl,i1⟩
 . rintro o ⟨ho,l2,x,rfl,hl2⟩;exact⟨l2,x,ho,hl2⟩
theorem data_g{c:Q0}(hc:Ck c){v:J2}(hv:OkV v)(hx:∀x∈v.Init,wE x<=10000)(hl:v.Init.length<=5000){n:Int}(hn:szT c.t n≠0):Og Ep (Q0i c v n) (fun x=>Tg c x.2):=by
 have hin:=sz_in hn;have hsz:=X4b hc.tab n;unfold Q0i
 dsimp only[jn]
 refine Og.step (Q5r _ _) ?_;refine Og.step (x:=List.replicate (szT c.t n).toNat 0) (by unfold repl;rw[if_pos (by omega)]) ?_;refine Og.bind (X5w hc.tab hv n) (fun l hi=>?_) (fun e he=>Og.err he)
 have hll:l.length<=5000:=by
  rcases hi.1 with h|h
  . rw[h];simp
  . rw[h];exact hl
 have hox:∀x∈l,OkX x:=by
  intro x hm
  rcases hi.1 with h|h
  . rw[h]at hm;cases hm
  . rw[h]at hm;exact⟨hv.init x hm,hx x hm⟩
 refine Og.loop (fun s=>s.1.length=(szT c.t n).toNat/\0<=s.2.1/\s.2.1<=l.length/\Tg c {s.2.2.1 with t:=s.2.2.2}) (fun s=>l.length-s.2.1.toNat) ⟨by simp,qC 0,by dsimp only;omega,Tg.refl hc.tab⟩ (by dsimp only;omega) ?_;rintro⟨x1,x11,x12,x13⟩ ⟨i1,i2,i3,i4⟩
 dsimp only at i1 i2 i3 i4⊢
 by_cases hs:x11<l.length
 . rw[c1 (dt hs)];obtain⟨u,hu,hum⟩:=S7 ⟨i2,hs⟩;have ou:=hox u hum;have hne:l≠[]:=fun e=>by rw[e]at hs;simp at hs;omega
   have hw:=(hi.2 hne).2;refine Rn.step hu ?_;refine Rn.bindG (Y1m (hc.tg i4) ou) (fun y3 a3=>?_) (fun e he=>Rn.ok (Og.err he));have tg:=i4.trans a3.1;refine Rn.step (Y6l a3.1.tab n) ?_;have pu:=Q3k u;refine Rn.bindG (Z6l a3.1.tab ou.pn (n:=6*wE u) (by omega) a3.2 _) (fun y5 a5=>?_) (fun e he=>Rn.ok (Og.err he));have how:=ou.w;obtain⟨b,e,hf,hb⟩:=Fold_any a5 (by unfold NN;omega);refine Rn.step hf ?_;refine Y7m ou.pn (fun _=>?_) (fun e he=>Og.err he);refine Rn.step (Y6l a3.1.tab n) ?_;obtain⟨w,hwc,hw1,hw2⟩:=Y8g a3.1.tab (paT y3.2.t n);refine Rn.step hwc ?_;have hpa:paT y3.2.t n=paT c.t n:=tg.gr.pa hin;have hp0:=(hi.2 hne).1
   have hwe:w=0\/w=szT c.t (paT c.t n):=by
    by_cases h0:w=0
    . exact .inl h0
    . right
      rw[hw1 h0,hpa];exact tg.gr.sz (sz_in hp0)
   have hmul:w=0\/w*x11+w<=(x1.length:Int):=by
    rcases hwe with h|h
    . exact .inl h
    . right
      have h1:w*(x11+1)<=w*(l.length:Int):=Int.mul_le_mul_of_nonneg_left (by omega) hw2.1;have h2:w*(x11+1)=w*x11+w:=by rw[Int.mul_add,Int.mul_one]
      rw[h]at h1 h2⊢;omega
   have hk0:0<=w*x11:=Int.mul_nonneg hw2.1 i2
   have hk1:w*x11<=100000000:=by
    rcases hmul with h|h
    . rw[h];simp
    . omega
   obtain⟨l2,x,hlo,hl2⟩:=X7i w b x11 x1 (by omega) hw2 hmul hk1 hk0;refine Rn.step hlo ?_;exact Rn.ok ⟨⟨by dsimp only;rw[hl2];exact i1,by dsimp only;rw[w64 (by omega)];omega,by dsimp only;rw[w64 (by omega)];omega,tg⟩,by dsimp only;rw[w64 (by omega)];omega⟩
 . rw[c0 (df hs)];exact Rn.ok (Og.ok i4)
theorem X2p{K V:Type}[DecidableEq K](k k':K)(v:V):∀l:List (K×V),Q9n (Q8w l k v) k'=if k'=k then some v else Q9n l k'
 |[]=>by
  unfold Q8w Q9n
  dsimp only
  split
  . rfl
  . unfold Q9n;rfl
 |p::l=>by
  unfold Q8w
  by_cases h:k=p.1
  . rw[if_pos h]
    unfold Q9n
    dsimp only
    by_cases e:k'=k
    . rw[if_pos e,if_pos e]
    . rw[if_neg e,if_neg e,if_neg (fun q=>e (q.trans h.symm))]
  . rw[if_neg h]
    unfold Q9n
    by_cases e:k'=p.1
    . rw[if_pos e,if_neg (fun q=>h (q.symm.trans e)),if_pos e]
    . rw[if_neg e,if_neg e]
      exact X2p k k' v l
theorem X2o{K V:Type}[DecidableEq K](k:K)(v:V):∀l:List (K×V),Q9n l k=none->(Q8w l k v).length=l.length+1
 |[],_=>rfl
 |p::l,h=>by
  unfold Q9n at h
  unfold Q8w
  by_cases e:k=p.1
  . rw[if_pos e]at h;cases h
  . rw[if_neg e]at h
    rw[if_neg e,qY,X2o k v l h,qY]
theorem MpO.put{m:Option (List (Aa×Int))}{n:Nat}(h:MpO m n){k:Aa}{l:List (Aa×Int)}(hl:m=some l)(hn:Z4y m=n)(hk:Q9n l k=none):MpO (some (Q8w l k (n:Int))) (n+1)/\Z4y (some (Q8w l k (n:Int)))=n+1:=by
 obtain⟨l',hl',hv⟩:=h;rw[hl]at hl';cases hl';have hlen:l.length=n:=by rw[hl]at hn;exact hn
 refine⟨⟨_,rfl,fun k' v h=>?_⟩,by unfold Z4y;rw[Option.getD_some,X2o _ _ _ hk,hlen]⟩;rw[X2p]at h
 split at h
 . cases h;omega
 . have:=hv _ _ h;omega
theorem Y5v{o:Option Int}(h:o.isSome=false):o=none:=by cases o with
 |none=>rfl
 |some x=>cases h
theorem named_g{c:Q0}(hc:Ck c){p:Pos}(hp:Pn p)(nm:Aa):Og Ep (W5 c p nm) (fun c'=>∃gm,c.globals=some gm/\Q9n gm nm=none/\c.gtypes.length<200/\c'={c with globals:=some (Q8w gm nm (c.gtypes.length:Int))}):=by
 unfold W5;obtain⟨gm,hg,hv⟩:=hc.gl;have hgn:=hc.gn;have hlg:=hc.lg;rw[hgn];cases hb:((P7 c.globals nm).isSome||(P7 c.codes nm).isSome)with
 |true=>rw[c1 (b:=true) rfl];exact Z2e hp (by decide)
 |false=>
  rw[c0 (b:=false) rfl]
  simp only[Bool.or_eq_false_iff]at hb
  have h1:=Y5v hb.1;unfold P7 at h1;rw[hg,qV]at h1
  by_cases h2:c.gtypes.length=200
  . rw[c1 (by rw[h2];rfl)];exact Z2e hp (by decide)
  . rw[c0 (beq_eq_false_iff_ne.2 (by omega)),hg,qV];exact Og.ok ⟨gm,rfl,h1,by omega,rfl⟩
theorem named2_g{c:Q0}(hc:Ck c){p:Pos}(hp:Pn p)(nm:Aa):Og Ep (P4 c p nm) (fun c'=>∃gm,c.codes=some gm/\Q9n gm nm=none/\c.signs.length<200/\c'={c with codes:=some (Q8w gm nm (c.signs.length:Int))}):=by
 unfold P4;obtain⟨gm,hg,hv⟩:=hc.co;have hgn:=hc.cn;have hlg:=hc.lc;rw[hgn];cases hb:((P7 c.globals nm).isSome||(P7 c.codes nm).isSome)with
 |true=>rw[c1 (b:=true) rfl];exact Z2e hp (by decide)
 |false=>
  rw[c0 (b:=false) rfl]
  simp only[Bool.or_eq_false_iff]at hb
  have h1:=Y5v hb.2;unfold P7 at h1;rw[hg,qV]at h1
  by_cases h2:c.signs.length=200
  . rw[c1 (by rw[h2];rfl)];exact Z2e hp (by decide)
  . rw[c0 (beq_eq_false_iff_ne.2 (by omega)),hg,qV];exact Og.ok ⟨gm,rfl,h1,by omega,rfl⟩
structure Gl(c c':Q0):Prop where
 ck:Ck c'
 f:c'.fun_=c.fun_
 d:c'.u.Data.length=c.u.Data.length+1
 gr:Gr c.t c'.t
 s:c'.signs=c.signs
theorem global_g{c:Q0}(hc:Ck c){v:J2}(hv:OkV v)(hd:v.Dims.length<=5000)(hx:∀x∈v.Init,wE x<=10000)(hl:v.Init.length<=5000)(hdl:c.u.Data.length<=100000):Og Ep (O6 c v) (Gl c):=by
 unfold O6;refine Og.bind (X5d hc.tab hv hd) (fun y1 a1=>?_) (fun e he=>Og.err he);rw[a1.1.back];have hc1:=hc.tg a1.1;refine Og.bind (named_g hc1 hv.pos v.Name) (fun y2 a2=>?_) (fun e he=>Og.err he);obtain⟨gm,hg,hn,hlt,rfl⟩:=a2;have hf:y1.2.fun_=c.fun_:=a1.1.fun_eq;obtain⟨s,hs⟩:=X2f (c:={({y1.2 with globals:=some (Q8w gm v.Name (y1.2.gtypes.length:Int))}:Q0)with fun_:=c.fun_}) hc1.tab v.Name y1.1;refine Og.step hs ?_;have hug:=hc1.ug;refine Og.step (M9 (by simp;omega)) ?_;refine Og.step (M9 (by simp;omega)) ?_;have put:=hc1.gl.put hg hc1.gn hn
 have ck:Ck {({y1.2 with globals:=some (Q8w gm v.Name (y1.2.gtypes.length:Int))}:Q0)with u:={y1.2.u with Globals:=y1.2.u.Globals++[s]},gtypes:=y1.2.gtypes++[y1.1],fun_:=c.fun_}:=
  ⟨hc1.tab,by simpa using put.1,hc1.co,hc.fn,by simpa using put.2,hc1.cn,by simp;omega,hc1.uc,by simp;omega,hc1.lc⟩
 refine Og.bind (data_g ck hv hx hl a1.2) (fun y4 a4=>?_) (fun e he=>Og.err he);have he:=a4.eq;have hck:=ck.tg a4;have hu:y1.2.u=c.u:=by rw[a1.1.eq]
 refine Og.step (M9 (by rw[he];simp[hu];omega)) ?_;refine Og.ok ⟨⟨hck.tab,hck.gl,hck.co,hck.fn,hck.gn,hck.cn,hck.ug,hck.uc,hck.lg,hck.lc⟩,by dsimp only;rw[he],by dsimp only;rw[he];simp[hu],a1.1.gr.trans a4.gr,by dsimp only;rw[he];dsimp only;rw[a1.1.eq]⟩
structure Tt(c c':Q0):Prop where
 eq:c'={c with t:=c'.t}
 tab:Tab c'.t
theorem Tt.refl{c:Q0}(h:Tab c.t):Tt c c:=⟨rfl,h⟩
theorem Tt.tg{a b c:Q0}(h:Tt a b)(g:Tg b c):Tt a c:=⟨by rw[g.eq,h.eq],g.tab⟩
theorem Tt.put{a b:Q0}(h:Tt a b){t:Z9}(ht:Tab t):Tt a {b with t:=t}:=⟨by
 have e:=h.eq
 generalize b.t=t' at e
 subst e
 rfl,ht⟩
theorem Ck.tt{c c':Q0}(h:Ck c)(g:Tt c c'):Ck c':=by
 have e:=g.eq;have t:=g.tab
 generalize c'.t=t' at e t
 subst e;exact⟨t,h.gl,h.co,h.fn,h.gn,h.cn,h.ug,h.uc,h.lg,h.lc⟩
structure OkG(s:S8):Prop where
 pos:Pn s.Pos
 f:∀v∈s.Fields,OkV v/\v.Dims.length<=5000
 l:s.Fields.length<=5000
theorem X6l{c:Q0}(hc:Tab c.t){l:List S8}(hl:l.length<=5000)(hs:∀s∈l,OkG s):Og Ep (I2 c l) (Tt c):=by
 unfold I2;refine Og.loop (fun s=>0<=s.1/\s.1<=l.length/\Tab s.2) (fun s=>l.length-s.1.toNat) ⟨qC 0,by dsimp only;omega,hc⟩ (by dsimp only;omega) ?_;rintro⟨x2,x3⟩ ⟨i1,i2,i3⟩
 dsimp only at i1 i2 i3⊢
 by_cases h0:x2<l.length
 . rw[c1 (dt h0)];obtain⟨s,hs1,hsm⟩:=S7 ⟨i1,h0⟩;refine Rn.step hs1 ?_;obtain⟨m,e,t',hy,g1⟩:=open_any i3 s.Name;refine Rn.step hy ?_;exact Y7m (hs s hsm).pos (fun _=>Rn.ok ⟨⟨by dsimp only;rw[w64 (by omega)];omega,by dsimp only;rw[w64 (by omega)];omega,g1⟩,by dsimp only;rw[w64 (by omega)];omega⟩) (fun e he=>Og.err he)
 rw[c0 (df h0)];refine Rn.ok ?_;refine Og.loop (fun s=>0<=s.1/\s.1<=l.length/\Tt c {s.2.1 with t:=s.2.2}) (fun s=>l.length-s.1.toNat) ⟨qC 0,by dsimp only;omega,(Tt.refl hc).put i3⟩ (by dsimp only;omega) ?_;rintro⟨x12,x13,x14⟩ ⟨j1,j2,j3⟩
 dsimp only at j1 j2 j3⊢
 by_cases h1:x12<l.length
 . rw[c1 (dt h1)];obtain⟨s,hs1,hsm⟩:=S7 ⟨j1,h1⟩;have os:=hs s hsm;have osl:=os.l;refine Rn.step hs1 ?_
   refine Exists.elim (Q4b (body:=(fun(x15,x24,x25,x26)=>(bif decide (x24<(qQ s.Fields:Int))then((idx s.Fields x24).bind fun u4=>(N5 ({x25 with t:=x26}) u4).bind fun y3=>exL y3 (fun y3=>(Q1d (qQ x15+qQ ([(⟨u4.Name,y3.1,0⟩:K8)]:List K8))).bind fun _=>some (Lp.go (x15++([(⟨u4.Name,y3.1,0⟩:K8)]:List K8),qJ .i64 (x24+1),y3.2,y3.2.t))))else(some (Lp.brk (x15,x24,{x25 with t:=x26},x26))):Option (Lp ((List K8)×Int×Q0×Z9) (Am (Q0)))))) (n:=NN) (s:=([],(0:Int),({x13 with t:=x14}:Q0),x14))
    (fun s'=>(0<=s'.2.1/\s'.2.1<=s.Fields.length)/\s'.1.length<=s'.2.1/\Tt c {s'.2.2.1 with t:=s'.2.2.2}) (fun s'=>s.Fields.length-s'.2.1.toNat)
    (fun o=>match o with
     | .go _=>False
     | .brk s'=>s'.1.length<=5000/\Tt c {s'.2.2.1 with t:=s'.2.2.2}
     | .ret z=>∃e,z=qK e/\Ep e) ⟨⟨qC 0,by dsimp only;omega⟩,by simp,j3⟩ (Z1i (by dsimp only;omega)) ?_) ?_
   . rintro⟨x15,x24,x25,x26⟩ ⟨k1,k2,k3⟩
     dsimp only at k1 k2 k3⊢
     by_cases h2:x24<s.Fields.length
     . rw[c1 (dt h2)];obtain⟨v,hv,hvm⟩:=S7 ⟨k1.1,h2⟩;have ov:=os.f v hvm;obtain⟨z,ez,hz⟩:=X3a k3.tab ov.1 ov.2;rw[hv,qV,ez,qV];cases z with
       |error e=>exact⟨_,rfl,_,rfl,hz⟩
       |ok y=>
        dsimp only[exL,exE,exC]
        rw[M9 (by simp;omega),qV];exact⟨_,rfl,⟨by dsimp only;rw[w64 (by omega)];omega,by dsimp only;rw[w64 (by omega)];simp;omega,k3.tg hz⟩,by dsimp only;rw[w64 (by omega)];omega⟩
     . rw[c0 (df h2)];exact⟨_,rfl,by dsimp only;omega,k3⟩
   . rintro o ⟨ho,hp⟩;rw[ho,qV];cases o with
     |go _=>exact hp.elim
     |ret z=>
      obtain⟨e,rfl,he⟩:=hp;exact Rn.ok (Og.err he)
     |brk s'=>
      obtain⟨x15,x24,x25,x26⟩:=s';obtain⟨p1,p2⟩:=hp
      dsimp only at p1 p2
      obtain⟨m,e,t',hy,g1⟩:=X4c p2.tab s.Name p1;refine Rn.step hy ?_;refine Y7m os.pos (fun _=>Rn.ok ⟨⟨by dsimp only;rw[w64 (by omega)];omega,by dsimp only;rw[w64 (by omega)];omega,p2.put g1⟩,by dsimp only;rw[w64 (by omega)];omega⟩) (fun e he=>Og.err he)
 . rw[c0 (df h1)];exact Rn.ok (Og.ok j3)
structure Hd(c:Q0)(n:Nat)(c':Q0):Prop where
 ck:Ck c'
 f:c'.fun_=c.fun_
 d:c'.u.Data=c.u.Data
 s:∃s,c'.signs=c.signs++[s]/\s.params.length=n
structure OkH(f:L6):Prop where
 pos:Pn f.Pos
 r:OkT f.Ret
 p:∀v∈f.Params,OkV v
 l:f.Params.length<=5000
theorem header_g{c:Q0}(hc:Ck c){f:L6}(hf:OkH f):Og Ep (O5 c f) (Hd c f.Params.length):=by
 have hpl:=hf.l;unfold O5;refine Og.bind (Y3r hc.tab hf.pos hf.r) (fun y1 a1=>?_) (fun e he=>Og.err he);have hc1:=hc.tg a1
 have cont:Og Ep ((P4 y1.2 f.Pos f.Name).bind fun y4=>exE y4 (fun y4=>bif decide (6<(qQ f.Params:Int))then((X2 f.Pos 2).bind fun y5=>exC y5 (fun y5=>none) (fun e2=>some (qK (e2,y4))))else((loopM (fun(x10,x11,x12,x13)=>(bif decide (x10<(qQ f.Params:Int))then((idx f.Params x10).bind fun u3=>(F2 ({x12 with t:=x13}) u3.Pos u3.Type_).bind fun y6=>exL y6 (fun y6=>(M0 y6.2.t y6.1).bind fun y7=>bif !y7 then((X2 u3.Pos 5).bind fun y8=>exC y8 (fun y8=>none) (fun e3=>some (Lp.ret (qK (e3,y6.2)))))else((Q1d (qQ x11.params+qQ ([y6.1]:List Int))).bind fun _=>some (Lp.go (qJ .i64 (x10+1),(⟨x11.ret,x11.params++([y6.1]:List Int)⟩:H7),y6.2,y6.2.t)))))else(some (Lp.brk (x10,x11,{x12 with t:=x13},x13))):Option (Lp (Int×H7×Q0×Z9) (Am (Q0))))) NN ((0:Int),(⟨y1.1,[]⟩:H7),y4,y4.t)).bind fun o=>o.thn (fun(x10,x11,x12,x13)=>(Q1d (qQ x12.signs+qQ ([x11]:List H7))).bind fun _=>(Q1d (qQ x12.u.Codes+qQ ([(⟨f.Name,y1.1==0,(qQ f.Params:Int),[],[]⟩:Q5b)]:List Q5b))).bind fun _=>some (qX ({x12 with t:=x13,u:={x12.u with Codes:=x12.u.Codes++([(⟨f.Name,y1.1==0,(qQ f.Params:Int),[],[]⟩:Q5b)]:List Q5b)},signs:=x12.signs++([x11]:List H7)}))) (fun r=>some r)))) (Hd c f.Params.length):=by
  refine Og.bind (named2_g hc1 hf.pos f.Name) (fun y2 a2=>?_) (fun e he=>Og.err he);obtain⟨gm,hg,hn,hlt,rfl⟩:=a2;cases decide (6<(f.Params.length:Int))with
  |true=>rw[c1 (b:=true) rfl];exact Q1m hf.pos (by decide)
  |false=>
  rw[c0 (b:=false) rfl];refine Og.loop (fun s=>(0<=s.1/\s.1<=f.Params.length)/\(s.2.1.params.length:Int)=s.1/\Tt {y1.2 with codes:=some (Q8w gm f.Name (y1.2.signs.length:Int))} {s.2.2.1 with t:=s.2.2.2}) (fun s=>f.Params.length-s.1.toNat) ⟨⟨qC 0,by dsimp only;omega⟩,rfl,Tt.refl hc1.tab⟩ (by dsimp only;omega) ?_;rintro⟨x10,x11,x12,x13⟩ ⟨i1,i2,i3⟩
  dsimp only at i1 i2 i3⊢
  by_cases h0:x10<f.Params.length
  . rw[c1 (dt h0)];obtain⟨v,hv,hvm⟩:=S7 ⟨i1.1,h0⟩;have ov:=hf.p v hvm;refine Rn.step hv ?_;refine Rn.bindG (Y3r i3.tab ov.pos ov.ty) (fun y6 a6=>?_) (fun e he=>Rn.ok (Og.err he));obtain⟨b,hb⟩:=Z2t y6.2.t y6.1;refine Rn.step hb ?_;cases b with
    |false=>rw[c1 (b:=!false) rfl];exact fail_l ov.pos (by decide) (fun e he=>Og.err he)
    |true=>
     rw[c0 (b:=!true) rfl];refine Rn.step (M9 (by simp;omega)) ?_;exact Rn.ok ⟨⟨by dsimp only;rw[w64 (by omega)];omega,by dsimp only;rw[w64 (by omega)];simp;omega,i3.tg a6⟩,by dsimp only;rw[w64 (by omega)];omega⟩
  . rw[c0 (df h0)];refine Rn.ok ?_;have he:=i3.eq;have hs:x12.signs=y1.2.signs:=by have:=congrArg Q0.signs he;exact this
    have hu:x12.u=y1.2.u:=by have:=congrArg Q0.u he;exact this
    have hgl:x12.globals=y1.2.globals:=by have:=congrArg Q0.globals he;exact this
    have hco:x12.codes=some (Q8w gm f.Name (y1.2.signs.length:Int)):=by have:=congrArg Q0.codes he;exact this
    have hgt:x12.gtypes=y1.2.gtypes:=by have:=congrArg Q0.gtypes he;exact this
    have hfu:x12.fun_=y1.2.fun_:=by have:=congrArg Q0.fun_ he;exact this
    have hlc:=hc1.lc;have huc:=hc1.uc
    dsimp only[Lp.thn]
    refine Og.step (M9 (by rw[hs];simp;omega)) ?_;refine Og.step (M9 (by rw[hu];simp;omega)) ?_;have put:=hc1.co.put hg hc1.cn hn;have hsg:y1.2.signs=c.signs:=by rw[a1.eq]
    refine Og.ok ⟨⟨i3.tab,by dsimp only;rw[hgl,hgt];exact hc1.gl,by dsimp only;rw[hco,hs];simpa using put.1,by dsimp only;rw[hfu];exact hc1.fn,by dsimp only;rw[hgl,hgt];exact hc1.gn,by dsimp only;rw[hco,hs];simpa using put.2,by dsimp only;rw[hu,hgt];exact hc1.ug,by dsimp only;rw[hu,hs];simp;omega,by dsimp only;rw[hgt];exact hc1.lg,by dsimp only;rw[hs];simp;omega⟩,by dsimp only;rw[hfu,a1.fun_eq],by dsimp only;rw[hu,a1.eq],x11,by dsimp only;rw[hs,hsg],by omega⟩
 cases(y1.1 !=0)with
 |false=>exact cont
 |true=>
  rw[c1 (b:=true) rfl];obtain⟨b,hb⟩:=Z2t y1.2.t y1.1;refine Og.step hb ?_;cases b with
  |false=>rw[c1 (b:=!false) rfl];exact Q1m hf.pos (by decide)
  |true=>exact cont
theorem main_g{c:Q0}(hc:Ck c){l:List L6}(hl:l.length=c.signs.length)(hp:∀f∈l,Pn f.Pos):Og Ep (S4 c l) (fun c'=>∃k,c'={c with u:={c.u with Main:=k}}):=by
 unfold S4;obtain⟨gm,hg,hv⟩:=hc.co;have hgm:P7 c.codes ([109,97,105,110]:Aa)=Q9n gm [109,97,105,110]:=by unfold P7;rw[hg];rfl
 rw[hgm];cases he:Q9n gm [109,97,105,110]with
 |none=>rw[c1 (b:=!(kJ none)) rfl];exact Q1m (by unfold Pn;decide) (by decide)
 |some v=>
  have hr:=hv _ _ he;rw[c0 (b:=!(kJ (some v))) rfl];obtain⟨s,hs,_⟩:=S7 hr;obtain⟨f,hf,hfm⟩:=S7 (l:=l) (n:=v) ⟨hr.1,by rw[hl];exact hr.2⟩;refine Og.step hs ?_;cases decide (0<(s.params.length:Int))with
  |true=>rw[c1 (b:=true) rfl];exact Og.step hf (Q1m (hp f hfm) (by decide))
  |false=>
   rw[c0 (b:=false) rfl];refine Og.step hs ?_;cases(s.ret !=1)with
   |true=>rw[c1 (b:=true) rfl];exact Og.step hf (Q1m (hp f hfm) (by decide))
   |false=>exact Og.ok ⟨v,rfl⟩
structure St(c c':Q0):Prop where
 eq:c'={c with t:=c'.t,fun_:=c'.fun_}
 ck:Ck c'
 gr:Gr c.t c'.t
 fn:∃f f',c.fun_= .some f/\c'.fun_= .some f'/\f'.scopes.length=f.scopes.length
theorem St.trans{a b c:Q0}(h:St a b)(g:St b c):St a c:=by
 obtain⟨f,f',h1,h2,h3⟩:=h.fn;obtain⟨k,k',g1,g2,g3⟩:=g.fn;rw[h2]at g1;cases g1;exact⟨by rw[g.eq,h.eq],g.ck,h.gr.trans g.gr,f,k',h1,g2,by omega⟩
theorem St.of{c c':Q0}(h:Ck c)(g:Tg c c'){f:E1}(hf:c.fun_= .some f):St c c':=⟨by
 have e:=g.eq
 have hfu:=g.fun_eq
 rw[hfu]
 exact e,h.tg g,g.gr,f,f,hf,by rw[g.fun_eq];exact hf,rfl⟩
theorem MpO.mono{m:Option (List (Aa×Int))}{n k:Nat}(h:MpO m n)(hk:n<=k):MpO m k:=by
 obtain⟨l,hl,hv⟩:=h;exact⟨l,hl,fun a b hb=>by have:=hv a b hb;omega⟩
theorem Y9n{c:Q0}(hc:Ck c){f:E1}(hf:c.fun_= .some f)(hs:1<=f.scopes.length){p:Pos}(hp:Pn p)(nm:Aa)(k:Int):Og Ep (M4 c p nm k) (fun x=>St c x.2):=by
 have hfn:=hc.fn;rw[hf]at hfn;have hfn:Fn f:=hfn;have hsl:=hfn.sl;have hle:=hfn.le;have hty:=hfn.ty;unfold M4;refine Og.step (x:=f) (by rw[hf];rfl) ?_;rw[w64 (by omega),show((f.scopes.length:Int)-1)=((f.scopes.length-1:Nat):Int) by omega];have hlt:f.scopes.length-1<f.scopes.length:=by omega
 refine Og.step (E8 hlt) ?_;obtain⟨l,hl,hv⟩:=hfn.sc _ (jT hlt);rw[hl];cases he:(P7 (some l) nm).isSome with
 |true=>rw[c1 (b:=true) rfl];exact Q1m hp (by decide)
 |false=>
 rw[c0 (b:=false) rfl]
 by_cases h2:f.slots.length=200
 . rw[c1 (by rw[h2];rfl)];exact Q1m hp (by decide)
 rw[c0 (beq_eq_false_iff_ne.2 (by omega)),qV];obtain⟨s,hsl2⟩:=X2f (c:={c with fun_:=(O3.some ({f with scopes:=qP f.scopes (qF ((f.scopes.length-1:Nat):Int)) (some (Q8w l nm (qQ f.slots:Int)))}))}) hc.tab nm k;refine Og.step hsl2 ?_;refine Og.step (M9 (by simp;omega)) ?_;refine Og.step (M9 (by simp;omega)) ?_;refine Og.ok ⟨rfl,⟨hc.tab,hc.gl,hc.co,?_,hc.gn,hc.cn,hc.ug,hc.uc,hc.lg,hc.lc⟩,Gr.refl _,f,_,hf,rfl,by simp⟩
 change Fn _
 refine⟨by simp;omega,by simp;omega,?_,by simp;omega⟩;intro m hm
 dsimp only at hm⊢
 rw[qW]
 rcases Y6m hm with hm|rfl
 . exact(hfn.sc m hm).mono (by simp)
 . refine⟨_,rfl,fun a b hb=>?_⟩;rw[mGet_set]at hb
   split at hb
   . cases hb;simp;omega
   . have:=hv a b hb;simp;omega
theorem X1o{c:Q0}(hc:Ck c){x:Z5}(hx:OkX x):Og Ep (M7 c x) (fun y=>Tg c y.2/\∃t,y.1=⟨1,[t],[],false,[],[],[],0⟩/\Dp (6*wE x) t):=by
 unfold M7
 dsimp only[jn]
 have px:=Q3k x;refine Og.bind (expr_any hc hx) (fun y1 a1=>?_) (fun e he=>Og.err he);have fin:∀(v:Y0)(c':Q0),Tg c c'->Dp (6*wE x) v.term->Og Ep (some (qX (ε:=Z2×Q0) ((⟨1,([v.term]:List Y9),[],false,[],[],[],0⟩:K4),({c' with t:=c'.t}:Q0)))) (fun y=>Tg c y.2/\∃t,y.1=⟨1,[t],[],false,[],[],[],0⟩/\Dp (6*wE x) t):=fun v c' h d=>Og.ok ⟨h,_,rfl,d⟩;have d1:=a1.2.mono (show 6*wE x-2<=6*wE x by omega);cases y1.1.lies with
 |false=>exact fin _ _ a1.1 d1
 |true=>
  rw[c1 (b:=true) rfl];obtain⟨b,hb⟩:=Z2t y1.2.t y1.1.n;refine Og.step hb ?_;cases b with
  |false=>exact fin _ _ a1.1 d1
  |true=>
   rw[c1 (b:=true) rfl];refine Og.bind (X4a a1.1.tab hx.pn a1.2) (fun y3 a3=>?_) (fun e he=>Og.err he);rw[a3.1.back];exact fin _ _ (a1.1.trans a3.1) (a3.2.mono (by omega))
theorem one_g{c:Q0}(hc:Ck c)(k:Int){x:Z5}(hx:OkX x):Og Ep (L7 c k x) (fun y=>Tg c y.2/\∃t,y.1=⟨k,[t],[],false,[],[],[],0⟩/\Dp (6*wE x) t):=by
 unfold L7;exact Og.bind (Y9y hc hx) (fun y1 a1=>Og.ok ⟨a1.1,_,rfl,a1.2⟩) (fun e he=>Og.err he)
structure Al(a:K4):Prop where
 A:a.A.length<=1000000000
 P:a.Post.length<=1000000000
 b:a.Body.length<=1000000000
 e:a.Else.length<=1000000000
 c:a.Cases.length<=1000000000
 cb:∀c∈a.Cases,c.Body.length<=1000000000
inductive Ad:Nat->K4->Prop
 |mk {n:Nat} {a:K4} (A:∀t∈a.A,Dp 70000 t) (P:∀t∈a.Post,Dp 70000 t) (b:∀x∈a.Body,Ad n x) (e:∀x∈a.Else,Ad n x) (c:∀c∈a.Cases,∀x∈c.Body,Ad n x) (l:Al a):Ad (n+1) a
theorem Ad.mono{n:Nat}{a:K4}(h:Ad n a):∀{m:Nat},n<=m->Ad m a:=by
 induction h with
 |@mk n a A P b e c l ib ie ic=>
  intro m hm;obtain⟨k,rfl⟩:∃k,m=k+1:=⟨m-1,by omega⟩;exact .mk A P (fun x hx=>ib x hx (by omega)) (fun x hx=>ie x hx (by omega)) (fun q hq x hx=>ic q hq x hx (by omega)) l
theorem C0{α:Type}{p:α->Prop}:∀x∈([]:List α),p x:=fun x h=>by cases h
theorem Ad.flat{n:Nat}(hn:1<=n){k:Int}{A:List Y9}{f:Bool}{v:Int}(hA:∀t∈A,Dp 70000 t)(hl:A.length<=1000000000:=by simp):Ad n ⟨k,A,[],f,[],[],[],v⟩:=Ad.mono (n:=1) (.mk (n:=0) hA C0 C0 C0 (fun c h=>by cases h) ⟨hl,by simp,by simp,by simp,by simp,fun c h=>by cases h⟩) hn
theorem answer_g{c:Q0}(hc:Ck c){f:E1}(hf:c.fun_= .some f){s:V8}(hp:Pn s.Pos)(hA:∀x∈s.A,OkX x):Og Ep (R3 c s) (fun y=>Tg c y.2/\Ad 1 y.1):=by
 unfold R3
 by_cases h0:s.A=[]
 . rw[c1 (by rw[h0];rfl)];refine Og.step (x:=f) (by rw[hf];rfl) ?_;cases(f.ret !=0)with
   |true=>rw[c1 (b:=true) rfl];exact Q1m hp (by decide)
   |false=>exact Og.ok ⟨Tg.refl hc.tab,Ad.flat (qD _) C0⟩
 . have hl:1<=s.A.length:=List.length_pos_iff.2 h0;rw[c0 (beq_eq_false_iff_ne.2 (by omega))];have hx:=hA s.A[0] (jT hl);have hw:=hx.w;have px:=Q3k s.A[0];refine Og.step (show idx s.A 0=some s.A[0]from E8 (k:=0) hl) ?_;refine Og.bind (Y1m hc hx) (fun y2 a2=>?_) (fun e he=>Og.err he);have hf2:y2.2.fun_= .some f:=by rw[a2.1.fun_eq];exact hf
   refine Og.step (x:=f) (by rw[hf2];rfl) ?_;cases(f.ret==0)with
   |true=>rw[c1 (b:=true) rfl];exact Q1m hx.pn (by decide)
   |false=>
    rw[c0 (b:=false) rfl];refine Og.bind (X2v (c:={y2.2 with fun_:=(O3.some f)}) a2.1.tab hx.pn (n:=6*wE s.A[0]) (by omega) a2.2 f.ret) (fun y4 a4=>?_) (fun e he=>Og.err he);exact Og.ok ⟨a2.1,Ad.flat (qD _) (fun t ht=>by rw[kQ.1 ht];exact a4.mono (by omega))⟩
theorem X3y{c:Q0}(h:Tab c.t){a b:Y9}{k:Int}{l:List K4}(ha:Dp 69999 a)(hb:Dp 69999 b)(hl:∀x∈l,Ad 1 x)(hn:l.length<=1000000):∃r,W1 a b c k l=some r/\(∀x∈r,Ad 1 x)/\r.length=l.length+1:=by
 unfold W1
 dsimp only[jn]
 obtain⟨p,hp⟩:=Q0w h k;rw[Q5r,qV,hp,qV,M9 (by simp;omega),qV,E8 (show l.length<(l++[(⟨0,[],[],false,[],[],[],0⟩:K4)]).length by simp),qV];refine⟨_,rfl,fun x hx=>?_,by simp⟩
 rcases Y6m hx with hx|rfl
 . rcases jQ.1 hx with hx|hx
   . exact hl x hx
   . rw[kQ.1 hx];exact Ad.flat (qD _) C0
 . exact Ad.flat (qD _) (fun t ht=>by rw[kQ.1 ht];exact Dp.k2 rfl ha hb (by omega))
theorem St.step{a b c:Q0}(h:St a b)(g:Tg b c):St a c:=by
 obtain⟨f,f',h1,h2,h3⟩:=h.fn;exact h.trans (St.of h.ck g h2)
theorem len_any{t:Z9}(h:Tab t){n:Int}(h4:(tyT t n).1.Kind=4):(tyT t n).1.Len<=32768:=by
 unfold tyT at h4⊢;cases hx:idx t.list n with
 |none=>rw[hx]at h4;exact absurd h4 (by decide)
 |some x=>
  rw[hx]at h4
  have hm:x∈t.list:=by
   obtain⟨a,b,d⟩:=Q2d hx;exact jW d
  have hk:=h.k x hm;obtain⟨l1,e,he,he1,he2⟩:=hk.arr h4;have hs:=hk.sz
  dsimp only
  have h5:x.Type_.Len*1<=x.Type_.Len*e.size:=Int.mul_le_mul_of_nonneg_left he1 (by omega);omega
theorem X3x{c:Q0}(hc:Ck c){f:E1}(hf:c.fun_= .some f)(hs:1<=f.scopes.length){v:J2}(hv:OkV v)(hd:v.Dims.length<=5000)(hx:∀x∈v.Init,wE x<=10000)(hl:v.Init.length<=5000):Og Ep (A0 c v) (fun y=>St c y.2/\(∀x∈y.1,Ad 1 x)/\y.1.length<=40000):=by
 unfold A0
 dsimp only[jn]
 refine Og.bind (X5d hc.tab hv hd) (fun y1 a1=>?_) (fun e he=>Og.err he);rw[a1.1.back];have hf1:y1.2.fun_= .some f:=by rw[a1.1.fun_eq];exact hf
 refine Og.bind (Y9n (hc.tg a1.1) hf1 hs hv.pos v.Name y1.1) (fun y2 a2=>?_) (fun e he=>Og.err he);have st:=(St.of hc a1.1 hf).trans a2;have tb:=st.ck.tab;refine Og.step (Y6l tb _) ?_;refine Og.step (Z5n tb _) ?_;refine Og.bind (X5w tb hv y1.1) (fun l hi=>?_) (fun e he=>Og.err he)
 have hll:l.length<=5000:=by
  rcases hi.1 with h|h
  . rw[h];simp
  . rw[h];exact hl
 have hox:∀x∈l,OkX x:=by
  intro x hm
  rcases hi.1 with h|h
  . rw[h]at hm;cases hm
  . rw[h]at hm;exact⟨hv.init x hm,hx x hm⟩
 have a9:∀x∈([(⟨9,[],[],false,[],[],[],y2.1⟩:K4)]:List K4),Ad 1 x:=fun x hx=>by rw[kQ.1 hx];exact Ad.flat (qD _) C0
 have dv:Dp 69998 (⟨2,0,0,y2.1,false,0,false,true,[]⟩:Y9):=Dp.k0 rfl (by decide)
 by_cases h0:l=[]
 . rw[c1 (by rw[h0];rfl)];exact Og.ok ⟨st,a9,by simp⟩
 have hl1:1<=l.length:=List.length_pos_iff.2 h0;rw[c0 (beq_eq_false_iff_ne.2 (by omega))]
 by_cases h4:(tyT y2.2.t y1.1).1.Kind=4
 . rw[c0 (by rw[h4];rfl)];have hlen:=len_any tb h4;refine Og.loop (fun s=>(0<=s.1/\s.1<=32768)/\(∀x∈s.2.1,Ad 1 x)/\(s.2.1.length:Int)=s.1+1/\St c {s.2.2.1 with t:=s.2.2.2}) (fun s=>40000-s.1.toNat) ⟨(by decide:(0:Int)<=0/\(0:Int)<=32768),a9,rfl,st⟩ (by dsimp only;omega) ?_;rintro⟨x11,x12,x13,x14⟩ ⟨i1,i2,i3,i4⟩
   dsimp only at i1 i2 i3 i4⊢
   by_cases hlt:x11<(tyT y2.2.t y1.1).1.Len
   . rw[c1 (dt hlt)];obtain⟨p,hp⟩:=Q0w i4.ck.tab (paT y2.2.t y1.1);refine Rn.step hp ?_;have di:∀s q,Dp 69999 (⟨14,1,0,0,false,s,false,q,[(⟨2,0,0,y2.1,false,0,false,true,[]⟩:Y9),(⟨1,0,qJ .u32 x11,0,false,0,false,false,[]⟩:Y9)]⟩:Y9):=fun s q=>Dp.k2 (n:=1) rfl (Dp.k0 rfl (qD _)) (Dp.k0 rfl (qD _)) (by decide)
     by_cases hll2:x11<l.length
     . rw[c1 (dt hll2)];obtain⟨u,hu,hum⟩:=S7 ⟨i1.1,hll2⟩;have ou:=hox u hum;have how:=ou.w;have pu:=Q3k u;refine Rn.step hu ?_;refine Rn.step hu ?_;refine Rn.bindG (Y1m i4.ck ou) (fun y10 a10=>?_) (fun e he=>Rn.ok (Og.err he));refine Rn.bindG (Z6l a10.1.tab ou.pn (n:=6*wE u) (by omega) a10.2 _) (fun y11 a11=>?_) (fun e he=>Rn.ok (Og.err he));have st2:=i4.step a10.1;obtain⟨s,q,hq⟩:=Y1r (c:=y10.2) st2.ck.tab (⟨2,0,0,y2.1,false,0,false,true,[]⟩:Y9) (⟨1,0,qJ .u32 x11,0,false,0,false,false,[]⟩:Y9) (paT y2.2.t y1.1) 1;refine Rn.step hq ?_;obtain⟨r,hr,hr2,hr3⟩:=X3y (c:=y10.2) (k:=paT y2.2.t y1.1) st2.ck.tab (di s q) (a11.mono (show 6*wE u<=69999 by omega)) i2 (by omega);refine Rn.step hr ?_;exact Rn.ok ⟨⟨by dsimp only;rw[w64 (by omega)];omega,hr2,by dsimp only;rw[w64 (by omega),hr3];omega,st2⟩,by dsimp only;rw[w64 (by omega)];omega⟩
     . rw[c0 (df hll2)];obtain⟨s,q,hq⟩:=Y1r (c:={x13 with t:=x14}) i4.ck.tab (⟨2,0,0,y2.1,false,0,false,true,[]⟩:Y9) (⟨1,0,qJ .u32 x11,0,false,0,false,false,[]⟩:Y9) (paT y2.2.t y1.1) 1;refine Rn.step hq ?_;obtain⟨r,hr,hr2,hr3⟩:=X3y (c:={x13 with t:=x14}) (k:=paT y2.2.t y1.1) (b:=(⟨1,0,0,0,false,0,false,p,[]⟩:Y9)) i4.ck.tab (di s q) (Dp.k0 rfl (by decide)) i2 (by omega);refine Rn.step hr ?_;exact Rn.ok ⟨⟨by dsimp only;rw[w64 (by omega)];omega,hr2,by dsimp only;rw[w64 (by omega),hr3];omega,i4⟩,by dsimp only;rw[w64 (by omega)];omega⟩
   . rw[c0 (df hlt)];exact Rn.ok (Og.ok ⟨i4,i2,by dsimp only;omega⟩)
 . rw[c1 (by simpa using h4)];have hxx:=hox l[0] (jT hl1);have hw:=hxx.w;have px:=Q3k l[0];have hid:idx l 0=some l[0]:=E8 (k:=0) hl1;refine Og.step hid ?_;refine Og.step hid ?_;refine Og.bind (Y1m st.ck hxx) (fun y6 a6=>?_) (fun e he=>Og.err he);refine Og.bind (Z6l a6.1.tab hxx.pn (n:=6*wE l[0]) (by omega) a6.2 y1.1) (fun y7 a7=>?_) (fun e he=>Og.err he);obtain⟨r,hr,hr2,hr3⟩:=X3y (a:=(⟨2,0,0,y2.1,false,0,false,true,[]⟩:Y9)) (b:=y7) (k:=paT y2.2.t y1.1) a6.1.tab (dv.mono (by decide)) (a7.mono (by omega)) a9 (by simp);exact Og.step hr (Og.ok ⟨st.step a6.1,hr2,by rw[hr3];simp⟩)
structure OkY(x:V8):Prop where
 s:OkS x
 w:wS x<=5000
def QA(c:Q0)(n:Nat)(y:List K4×Q0):Prop:=St c y.2/\(∀x∈y.1,Ad n x)/\y.1.length<=40000*n
def Sc(c:Q0)(k:Nat):Prop:=∃f,c.fun_= .some f/\1<=f.scopes.length/\f.scopes.length+k<=90000
theorem St.refl{c:Q0}(h:Ck c){f:E1}(hf:c.fun_= .some f):St c c:=St.of h (Tg.refl h.tab) hf
theorem Sc.st{c c':Q0}{k:Nat}(h:Sc c k)(g:St c c'):Sc c' k:=by
 obtain⟨f,hf,h1,h2⟩:=h;obtain⟨a,b,ha,hb,hl⟩:=g.fn;rw[hf]at ha;cases ha;exact⟨b,hb,by omega,by omega⟩
theorem block_st{c c':Q0}{f f':E1}(hf:c.fun_= .some f)(g:St {c with fun_:=(O3.some ({f with scopes:=f.scopes++[(some [])]}))} c')(hf':c'.fun_= .some f'){s:List (Option (List (Aa×Int)))}(hs:s=f'.scopes.take (f'.scopes.length-1))(hl:f'.scopes.length=f.scopes.length+1):St c {c' with fun_:=(O3.some ({f' with scopes:=s}))}:=by
 have hk:=g.ck;have hfn:=hk.fn;rw[hf']at hfn;have hfn:Fn f':=hfn;refine⟨?_,⟨hk.tab,hk.gl,hk.co,?_,hk.gn,hk.cn,hk.ug,hk.uc,hk.lg,hk.lc⟩,g.gr,f,_,hf,rfl,by dsimp only;rw[hs,qE];omega⟩
 . have e:=g.eq
   dsimp only
   rw[e]
 . change Fn _
   refine⟨hfn.ty,hfn.le,fun m hm=>?_,by dsimp only;rw[hs,qE];have:=hfn.sl;omega⟩
   dsimp only at hm
   rw[hs]at hm;exact hfn.sc m (List.mem_of_mem_take hm)
theorem Ck.scope{c:Q0}(h:Ck c){f:E1}(hf:c.fun_= .some f)(hl:f.scopes.length+1<=90000):Ck {c with fun_:=(O3.some ({f with scopes:=f.scopes++[(some [])]}))}:=by
 have hfn:=h.fn;rw[hf]at hfn;have hfn:Fn f:=hfn;refine⟨h.tab,h.gl,h.co,?_,h.gn,h.cn,h.ug,h.uc,h.lg,h.lc⟩
 change Fn _
 refine⟨hfn.ty,hfn.le,fun m hm=>?_,by simp;omega⟩
 rcases jQ.1 hm with hm|hm
 . exact hfn.sc m hm
 . rw[kQ.1 hm];exact⟨[],rfl,fun a b hb=>by cases hb⟩
theorem Ck.loops{c:Q0}(h:Ck c){f:E1}(hf:c.fun_= .some f)(a b:Int):Ck {c with fun_:=(O3.some ({f with loops:=a,breaks:=b}))}:=by
 have hfn:=h.fn;rw[hf]at hfn;have hfn:Fn f:=hfn;exact⟨h.tab,h.gl,h.co,(⟨hfn.ty,hfn.le,hfn.sc,hfn.sl⟩:Fn {f with loops:=a,breaks:=b}),h.gn,h.cn,h.ug,h.uc,h.lg,h.lc⟩
theorem Z2r{α:Type}(w:α->Nat){l:List α}{x:α}(h:x∈l):w x<=sm w l:=by
 obtain⟨s,t,e⟩:=List.append_of_mem h;rw[e,Q2x,Q3q];omega
theorem sm_take{α:Type}(w:α->Nat){l:List α}{k:Nat}(h:k<l.length):sm w (l.take (k+1))=sm w (l.take k)+w l[k]:=by
 rw[List.take_succ_eq_append_getElem h,Q2x,Q3q]
 simp[sm]
theorem Y6w{α:Type}(w:α->Nat)(l:List α)(k:Nat):sm w (l.take k)<=sm w l:=by
 have:=Q2x w (l.take k) (l.drop k);rw[List.take_append_drop]at this;omega
theorem X6k{α:Type}{b:List α}{n:Nat}(h:n<=b.length):sub b 0 (n:Int)=some (b.take n):=by
 unfold sub;rw[if_pos (by omega)]
 simp
theorem OkY.A{x:V8}(h:OkY x):∀y∈x.A,OkX y:=fun y hy=>⟨match h.s with| .mk a _ _ _ _ _ _ _ _ _=>a y hy,by have:=Z2r wE hy;have:=Y2i x;have:=h.w;omega⟩
theorem OkY.B{x:V8}(h:OkY x):∀y∈x.B,OkX y:=fun y hy=>⟨match h.s with| .mk _ a _ _ _ _ _ _ _ _=>a y hy,by have:=Z2r wE hy;have:=Y2i x;have:=h.w;omega⟩
theorem OkY.C{x:V8}(h:OkY x):∀y∈x.C,OkX y:=fun y hy=>⟨match h.s with| .mk _ _ a _ _ _ _ _ _ _=>a y hy,by have:=Z2r wE hy;have:=Y2i x;have:=h.w;omega⟩
theorem OkY.V{x:V8}(h:OkY x):∀y∈x.Var,OkV y/\y.Dims.length<=5000/\(∀z∈y.Init,wE z<=10000)/\y.Init.length<=5000:=fun y hy=>by
 have h1:=Z2r wV hy
 have h2:=Y2i x
 have h3:=h.w
 have h5:wV y=1+y.Type_.Stars.toNat+y.Dims.length+sm wE y.Init:=rfl
 have h4:=Q1u Q3k y.Init
 exact⟨match h.s with| .mk _ _ _ a _ _ _ _ _ _=>a y hy,by omega,fun z hz=>by have:=Z2r wE hz;omega,by omega⟩
theorem OkY.body{x:V8}(h:OkY x):∀y∈x.Body,OkS y:=match h.s with| .mk _ _ _ _ a _ _ _ _ _=>a
theorem OkY.els{x:V8}(h:OkY x):∀y∈x.Else,OkS y:=match h.s with| .mk _ _ _ _ _ a _ _ _ _=>a
theorem OkY.cases{x:V8}(h:OkY x):∀c∈x.Cases,(∀y∈c.Body,OkS y)/\Pn c.Pos:=fun c hc=>⟨match h.s with| .mk _ _ _ _ _ _ a _ _ _=>a c hc,match h.s with| .mk _ _ _ _ _ _ _ _ _ a=>a c hc⟩
theorem OkY.pn{x:V8}(h:OkY x):Pn x.Pos:=match h.s with| .mk _ _ _ _ _ _ _ a _ _=>a
theorem OkY.sa{x:V8}(h:OkY x):Sa x.Kind x.A.length x.Var.length:=match h.s with| .mk _ _ _ _ _ _ _ _ a _=>a
theorem Sc.mono{c:Q0}{j k:Nat}(h:Sc c j)(hk:k<=j):Sc c k:=by
 obtain⟨f,a,b,d⟩:=h;exact⟨f,a,b,by omega⟩
theorem St.loops{c c':Q0}{f f':E1}(hf:c.fun_= .some f){a b:Int}(g:St {c with fun_:=(O3.some ({f with loops:=a,breaks:=b}))} c')(hf':c'.fun_= .some f')(a' b':Int):St c {c' with fun_:=(O3.some ({f' with loops:=a',breaks:=b'}))}:=by
 obtain⟨k,k',h1,h2,h3⟩:=g.fn;cases h1;rw[hf']at h2;cases h2;refine⟨?_,g.ck.loops hf' a' b',g.gr,f,_,hf,rfl,h3⟩;have e:=g.eq
 dsimp only
 rw[e]
structure S6(n:Nat):Prop where
 block:∀c l,Ck c->(∀y∈l,OkS y)->sm wS l<=5000->Sc c (sm wS l+1)->5*sm wS l+3<=n->Og Ep ((Q9m n).V1 c l) (QA c (2*sm wS l))
 looped:∀c l,Ck c->(∀y∈l,OkS y)->sm wS l<=5000->Sc c (sm wS l+1)->5*sm wS l+4<=n->Og Ep ((Q9m n).K2 c l) (QA c (2*sm wS l))
 around:∀c x,Ck c->OkY x->Sc c (wS x)->5*wS x<=n->Og Ep ((Q9m n).F4 c x) (QA c (2*wS x-1))
 choose:∀c x,Ck c->OkY x->Sc c (wS x)->1<=x.A.length->5*wS x<=n->Og Ep ((Q9m n).F3 c x) (fun y=>St c y.2/\Ad (2*wS x-1) y.1)
 stmt:∀c x,Ck c->OkY x->Sc c (wS x)->5*wS x+1<=n->Og Ep ((Q9m n).D6 c x) (QA c (2*wS x))
 acts:∀c l,Ck c->(∀y∈l,OkS y)->sm wS l<=5000->Sc c (sm wS l)->5*sm wS l+2<=n->Og Ep ((Q9m n).J0 c l) (QA c (2*sm wS l))
theorem block_s6{n:Nat}(h:S6 n):∀c l,Ck c->(∀y∈l,OkS y)->sm wS l<=5000->Sc c (sm wS l+1)->5*sm wS l+3<=n+1->Og Ep ((Q9m (n+1)).V1 c l) (QA c (2*sm wS l)):=by
 intro c l hc hl hw hs hn;show Og Ep (I4 (Q9m n) c l) _;unfold I4;obtain⟨f,hf,h1,h2⟩:=hs;refine Og.step (x:=f) (by rw[hf];rfl) ?_;refine Og.step (M9 (by omega)) ?_;refine Og.bind (h.acts _ l (hc.scope hf (by omega)) hl hw ⟨_,rfl,by simp,by simp;omega⟩ (by omega)) (fun y a=>?_) (fun e he=>Og.err he);obtain⟨a1,a2,a3⟩:=a;obtain⟨g,g',e1,e2,e3⟩:=a1.fn;cases e1;refine Og.step (x:=g') (by rw[e2];rfl) ?_;rw[qW,qG]at e3;refine Og.step (x:=g'.scopes.take (g'.scopes.length-1)) (by rw[w64 (by omega),show((g'.scopes.length:Int)-1)=((g'.scopes.length-1:Nat):Int) by omega];exact X6k (by omega)) ?_;exact Og.ok ⟨block_st hf a1 e2 rfl e3,a2,a3⟩
theorem X6v{n:Nat}(h:S6 n):∀c l,Ck c->(∀y∈l,OkS y)->sm wS l<=5000->Sc c (sm wS l+1)->5*sm wS l+4<=n+1->Og Ep ((Q9m (n+1)).K2 c l) (QA c (2*sm wS l)):=by
 intro c l hc hl hw hs hn;show Og Ep (A3 (Q9m n) c l) _;unfold A3;obtain⟨f,hf,h1,h2⟩:=hs;refine Og.step (x:=f) (by rw[hf];rfl) ?_;refine Og.bind (h.block _ l (hc.loops hf _ _) hl hw ⟨_,rfl,h1,h2⟩ (by omega)) (fun y a=>?_) (fun e he=>Og.err he);obtain⟨a1,a2,a3⟩:=a;obtain⟨g,g',e1,e2,e3⟩:=a1.fn;refine Og.step (x:=g') (by rw[e2];rfl) ?_;exact Og.ok ⟨St.loops hf a1 e2 _ _,a2,a3⟩
theorem acts_s6{n:Nat}(h:S6 n):∀c l,Ck c->(∀y∈l,OkS y)->sm wS l<=5000->Sc c (sm wS l)->5*sm wS l+2<=n+1->Og Ep ((Q9m (n+1)).J0 c l) (QA c (2*sm wS l)):=by
 intro c l hc hl hw hs hn;show Og Ep (R4 (Q9m n) c l) _;unfold R4;have hll:=Q1u Z5z l;obtain⟨f,hf,_⟩:=id hs;refine Og.loop (fun s=>0<=s.2.1/\s.2.1<=l.length/\(∀x∈s.1,Ad (2*sm wS l) x)/\s.1.length<=80000*sm wS (l.take s.2.1.toNat)/\St c {s.2.2.1 with t:=s.2.2.2}) (fun s=>l.length-s.2.1.toNat) ⟨qC 0,by dsimp only;omega,C0,by simp,St.refl hc hf⟩ (by dsimp only;omega) ?_;rintro⟨x1,x11,x12,x13⟩ ⟨i1,i2,i3,i4,i5⟩
 dsimp only at i1 i2 i3 i4 i5⊢
 obtain⟨k,rfl⟩:=jR i1;rw[Int.toNat_natCast]at i4
 by_cases hlt:k<l.length
 . rw[c1 (dlt hlt)];have hm:=jT hlt;have h1:=Z2r wS hm;have h2:=sm_take wS hlt;have h3:=Y6w wS l (k+1);refine Rn.step (E8 hlt) ?_;refine Rn.bindG (h.stmt _ l[k] i5.ck ⟨hl _ hm,by omega⟩ (Sc.st (Sc.mono hs h1) i5) (by omega)) (fun y a=>?_) (fun e he=>Rn.ok (Og.err he));obtain⟨a1,a2,a3⟩:=a;refine Rn.step (M9 (by omega)) ?_;refine Rn.ok ⟨⟨by dsimp only;rw[w64 (by omega)];omega,by dsimp only;rw[w64 (by omega)];omega,fun x hx=>?_,?_,i5.trans a1⟩,by dsimp only;rw[w64 (by omega)];omega⟩
   . rcases jQ.1 hx with hx|hx
     . exact i3 x hx
     . exact(a2 x hx).mono (by omega)
   . dsimp only
     rw[w64 (by omega),show((k:Int)+1)=((k+1:Nat):Int) by omega,Int.toNat_natCast,h2,qW];omega
 . rw[c0 (df (by omega))];have h3:=Y6w wS l k;exact Rn.ok (Og.ok ⟨i5,i3,by dsimp only;omega⟩)
structure Fa(a:K4):Prop where
 A:∀t∈a.A,Dp 70000 t
 P:∀t∈a.Post,Dp 70000 t
 b:a.Body=[]
 e:a.Else=[]
 c:a.Cases=[]
 l:a.Post.length<=1
theorem X7r{n:Nat}(h:S6 n):∀c x,Ck c->OkY x->Sc c (wS x)->5*wS x<=n+1->Og Ep ((Q9m (n+1)).F4 c x) (QA c (2*wS x-1)):=by
 intro c x hc hx hs hn;show Og Ep (A7 (Q9m n) c x) _;unfold A7;have hw:=Y2i x;have hww:=hx.w;have lA:=Q1u Q3k x.A;have lB:=Q1u Q3k x.B;have lC:=Q1u Q3k x.C;obtain⟨f,hf,_⟩:=id hs;refine Og.loop (fun s=>0<=s.2.1/\s.2.1<=x.A.length/\(∀y∈s.1,Ad 1 y)/\s.1.length<=s.2.1/\Tg c {s.2.2.1 with t:=s.2.2.2}) (fun s=>x.A.length-s.2.1.toNat) ⟨qC 0,by dsimp only;omega,C0,by simp,Tg.refl hc.tab⟩ (by dsimp only;omega) ?_;rintro⟨x1,x11,x12,x13⟩ ⟨i1,i2,i3,i4,i5⟩
 dsimp only at i1 i2 i3 i4 i5⊢
 by_cases hlt:x11<x.A.length
 . rw[c1 (dt hlt)];obtain⟨u,hu,hum⟩:=S7 ⟨i1,hlt⟩;have ou:=hx.A u hum;have uw:=ou.w;refine Rn.step hu ?_;refine Rn.bindG (X1o (hc.tg i5) ou) (fun y a=>?_) (fun e he=>Rn.ok (Og.err he));obtain⟨a1,t,a2,a3⟩:=a;refine Rn.step (M9 (by simp;omega)) ?_;refine Rn.ok ⟨⟨by dsimp only;rw[w64 (by omega)];omega,by dsimp only;rw[w64 (by omega)];omega,fun z hz=>?_,by dsimp only;rw[w64 (by omega),qW];simp;omega,i5.trans a1⟩,by dsimp only;rw[w64 (by omega)];omega⟩
   rcases jQ.1 hz with hz|hz
   . exact i3 z hz
   . rw[kQ.1 hz,a2];exact Ad.flat (qD _) (fun t ht=>by rw[kQ.1 ht];exact a3.mono (by omega))
 rw[c0 (df hlt)];refine Rn.ok ?_;show Og Ep ((loopM _ NN _).bind _) _
 clear hlt
 refine Og.loop (fun s=>0<=s.1/\s.1<=x.B.length/\Fa s.2.1/\s.2.1.A.length<=s.1/\Tg c {s.2.2.1 with t:=s.2.2.2}) (fun s=>x.B.length-s.1.toNat) ⟨qC 0,by dsimp only;omega,⟨C0,C0,rfl,rfl,rfl,by simp⟩,by simp,i5⟩ (by dsimp only;omega) ?_
 clear i5
 rintro⟨x24,x25,x26,x27⟩ ⟨j1,j2,j3,j4,j5⟩
 dsimp only at j1 j2 j3 j4 j5⊢
 by_cases hlt:x24<x.B.length
 . rw[c1 (dt hlt)];obtain⟨u,hu,hum⟩:=S7 ⟨j1,hlt⟩;have ou:=hx.B u hum;have uw:=ou.w;refine Rn.step hu ?_;refine Rn.bindG (Y9y (hc.tg j5) ou) (fun y a=>?_) (fun e he=>Rn.ok (Og.err he));refine Rn.step (M9 (by simp;omega)) ?_;refine Rn.ok ⟨⟨by dsimp only;rw[w64 (by omega)];omega,by dsimp only;rw[w64 (by omega)];omega,⟨fun z hz=>?_,j3.P,j3.b,j3.e,j3.c,j3.l⟩,by dsimp only;rw[w64 (by omega),qW];simp;omega,j5.trans a.1⟩,by dsimp only;rw[w64 (by omega)];omega⟩
   rcases jQ.1 hz with hz|hz
   . exact j3.A z hz
   . rw[kQ.1 hz];exact a.2.mono (by omega)
 rw[c0 (df hlt)];refine Rn.ok ?_;show Og Ep ((loopM _ NN _).bind _) _
 clear hlt
 refine Og.loop (fun s=>0<=s.1/\s.1<=x.C.length/\(Fa s.2.1/\s.2.1.A.length<=5000)/\Tg c {s.2.2.1 with t:=s.2.2.2}) (fun s=>x.C.length-s.1.toNat) ⟨qC 0,by dsimp only;omega,⟨j3,by dsimp only;omega⟩,j5⟩ (by dsimp only;omega) ?_
 clear j5 j3 j4
 rintro⟨x38,x39,x40,x41⟩ ⟨k1,k2,⟨k3,k4⟩,k5⟩
 dsimp only at k1 k2 k3 k4 k5⊢
 by_cases hlt:x38<x.C.length
 . rw[c1 (dt hlt)];obtain⟨u,hu,hum⟩:=S7 ⟨k1,hlt⟩;have ou:=hx.C u hum;have uw:=ou.w;refine Rn.step hu ?_;refine Rn.bindG (X1o (hc.tg k5) ou) (fun y a=>?_) (fun e he=>Rn.ok (Og.err he));obtain⟨a1,t,a2,a3⟩:=a;refine Rn.ok ⟨⟨by dsimp only;rw[w64 (by omega)];omega,by dsimp only;rw[w64 (by omega)];omega,⟨⟨k3.A,fun z hz=>?_,k3.b,k3.e,k3.c,by dsimp only;rw[a2];simp⟩,k4⟩,k5.trans a1⟩,by dsimp only;rw[w64 (by omega)];omega⟩
   dsimp only at hz
   rw[a2,kQ]at hz;rw[hz];exact a3.mono (by omega)
 rw[c0 (df hlt)];refine Rn.ok ?_;show Og Ep (((Q9m n).K2 _ _).bind _) _;have st:=St.of hc k5 hf;refine Og.bind (h.looped _ x.Body st.ck hx.body (by omega) (Sc.mono (Sc.st hs st) (by omega)) (by omega)) (fun y a=>?_) (fun e he=>Og.err he);obtain⟨a1,a2,a3⟩:=a;refine Og.step (M9 (by simp;omega)) ?_;refine Og.ok ⟨st.trans a1,fun z hz=>?_,by simp;omega⟩
 rcases jQ.1 hz with hz|hz
 . exact(i3 z hz).mono (by omega)
 . rw[kQ.1 hz];exact Ad.mono (n:=2*sm wS x.Body+1) (.mk (n:=2*sm wS x.Body) (a:={x39 with Body:=y.1}) k3.A k3.P a2 (by dsimp only;rw[k3.e];exact C0) (by dsimp only;rw[k3.c];exact C0) ⟨by dsimp only;omega,by have:=k3.l;dsimp only;omega,by dsimp only;omega,by dsimp only;rw[k3.e];simp,by dsimp only;rw[k3.c];simp,by dsimp only;rw[k3.c];exact C0⟩) (by omega)
theorem X7e{n:Nat}(h:S6 n):∀c x,Ck c->OkY x->Sc c (wS x)->1<=x.A.length->5*wS x<=n+1->Og Ep ((Q9m (n+1)).F3 c x) (fun y=>St c y.2/\Ad (2*wS x-1) y.1):=by
 intro c x hc hx hs hA hn;show Og Ep (A4 (Q9m n) c x) _;unfold A4
 dsimp only[jn]
 have hw:=Y2i x;have hww:=hx.w;have lC:=Q1u X3u x.Cases;obtain⟨f,hf,hs1,hs2⟩:=id hs;have ou:=hx.A x.A[0] (jT hA);have uw:=ou.w;refine Og.step (show idx x.A 0=some x.A[0]from E8 (k:=0) hA) ?_;refine Og.bind (X4j hc ou) (fun y a=>?_) (fun e he=>Og.err he);have hfy:y.2.fun_= .some f:=by rw[a.1.fun_eq];exact hf
 refine Og.step (x:=f) (by rw[hfy];rfl) ?_;have ck1:Ck {y.2 with fun_:=(O3.some ({f with breaks:=qJ .i64 (f.breaks+1)}))}:=(hc.tg a.1).loops hfy f.loops _;have st0:=St.of hc a.1 hf;refine Og.loop (fun s=>0<=s.2.2.1/\s.2.2.1<=x.Cases.length/\(∃m,s.1=some m)/\((∀t∈s.2.2.2.1.A,Dp 70000 t)/\s.2.2.2.1.A.length<=1/\s.2.2.2.1.Post=[]/\s.2.2.2.1.Body=[]/\s.2.2.2.1.Else=[])/\(∀q∈s.2.2.2.1.Cases,(∀z∈q.Body,Ad (2*wS x-2) z)/\q.Body.length<=1000000000)/\s.2.2.2.1.Cases.length<=s.2.2.1/\St {y.2 with fun_:=(O3.some ({f with breaks:=qJ .i64 (f.breaks+1)}))} {s.2.2.2.2.1 with t:=s.2.2.2.2.2}) (fun s=>x.Cases.length-s.2.2.1.toNat) ⟨qC 0,by dsimp only;omega,⟨_,rfl⟩,⟨fun t ht=>by rw[kQ.1 ht];exact a.2.mono (by omega),by simp,rfl,rfl,rfl⟩,C0,by simp,St.refl ck1 rfl⟩ (by dsimp only;omega) ?_;rintro⟨x2,x13,x14,x15,x16,x17⟩ ⟨i1,i2,⟨m,i3⟩,i4,i5,i6,i7⟩
 dsimp only at i1 i2 i3 i4 i5 i6 i7⊢
 subst i3
 by_cases hlt:x14<x.Cases.length
 . rw[c1 (dt hlt)];obtain⟨u,hu,hum⟩:=S7 ⟨i1,hlt⟩;have oc:=hx.cases u hum;have wc:=Z2r wC hum;have wc2:wC u=1+sm wS u.Body:=rfl;refine Rn.step hu ?_
   have go:∀(m':List (Int×Bool))(b:Bool),Rn (((Q9m n).V1 {x16 with t:=x17} u.Body).bind fun y4=>exL y4 (fun y4=>(Q1d (qQ x15.Cases+qQ ([{u with Body:=y4.1}]:List Q9k))).bind fun _=>some (Lp.go (some m',b,qJ .i64 (x14+1),{x15 with Cases:=x15.Cases++([{u with Body:=y4.1}]:List Q9k)},y4.2,y4.2.t)))) (NxG (fun s=>0<=s.2.2.1/\s.2.2.1<=x.Cases.length/\(∃m,s.1=some m)/\((∀t∈s.2.2.2.1.A,Dp 70000 t)/\s.2.2.2.1.A.length<=1/\s.2.2.2.1.Post=[]/\s.2.2.2.1.Body=[]/\s.2.2.2.1.Else=[])/\(∀q∈s.2.2.2.1.Cases,(∀z∈q.Body,Ad (2*wS x-2) z)/\q.Body.length<=1000000000)/\s.2.2.2.1.Cases.length<=s.2.2.1/\St {y.2 with fun_:=(O3.some ({f with breaks:=qJ .i64 (f.breaks+1)}))} {s.2.2.2.2.1 with t:=s.2.2.2.2.2}) (fun s=>x.Cases.length-s.2.2.1.toNat) (some m,x13,x14,x15,x16,x17) (fun o=>o.thn (fun(x2,x13,x14,x15,x16,x17)=>(O3.get x16.fun_).bind fun u10=>some (qX (x15,{x16 with t:=x17,fun_:=(O3.some ({u10 with breaks:=qJ .i64 (u10.breaks-1)}))}))) (fun r=>some r)) Ep (fun y=>St c y.2/\Ad (2*wS x-1) y.1)):=by
    intro m' b;refine Rn.bindG (h.block _ u.Body i7.ck oc.1 (by omega) (Sc.mono (Sc.st (k:=wS x) ⟨{f with breaks:=qJ .i64 (f.breaks+1)},rfl,hs1,hs2⟩ i7) (by omega)) (by omega)) (fun y4 a4=>?_) (fun e he=>Rn.ok (Og.err he));obtain⟨a1,a2,a3⟩:=a4;refine Rn.step (M9 (by simp;omega)) ?_;refine Rn.ok ⟨⟨by dsimp only;rw[w64 (by omega)];omega,by dsimp only;rw[w64 (by omega)];omega,⟨_,rfl⟩,i4,fun q hq=>?_,by dsimp only;rw[w64 (by omega),qW];simp;omega,i7.trans a1⟩,by dsimp only;rw[w64 (by omega)];omega⟩
    rcases jQ.1 hq with hq|hq
    . exact i5 q hq
    . rw[kQ.1 hq];exact⟨fun z hz=>(a2 z hz).mono (by omega),by dsimp only;omega⟩
   have er:∀{B:Type}(g:Unit->Option (Lp _ (Am (K4×Q0)))),Rn ((X2 u.Pos 6).bind fun y5=>exC y5 g (fun e4=>some (Lp.ret (qK (e4,{x16 with t:=x17}))))) (NxG (S:=Option (List (Int×Bool))×Bool×Int×K4×Q0×Z9) (fun s=>0<=s.2.2.1/\s.2.2.1<=x.Cases.length/\(∃m,s.1=some m)/\((∀t∈s.2.2.2.1.A,Dp 70000 t)/\s.2.2.2.1.A.length<=1/\s.2.2.2.1.Post=[]/\s.2.2.2.1.Body=[]/\s.2.2.2.1.Else=[])/\(∀q∈s.2.2.2.1.Cases,(∀z∈q.Body,Ad (2*wS x-2) z)/\q.Body.length<=1000000000)/\s.2.2.2.1.Cases.length<=s.2.2.1/\St {y.2 with fun_:=(O3.some ({f with breaks:=qJ .i64 (f.breaks+1)}))} {s.2.2.2.2.1 with t:=s.2.2.2.2.2}) (fun s=>x.Cases.length-s.2.2.1.toNat) (some m,x13,x14,x15,x16,x17) (fun o=>o.thn (fun(x2,x13,x14,x15,x16,x17)=>(O3.get x16.fun_).bind fun u10=>some (qX (x15,{x16 with t:=x17,fun_:=(O3.some ({u10 with breaks:=qJ .i64 (u10.breaks-1)}))}))) (fun r=>some r)) Ep (fun y=>St c y.2/\Ad (2*wS x-1) y.1)):=fun g=>fail_l oc.2 (by decide) (fun e he=>Og.err he);have er:=@er Unit;cases hd:u.Default with
   |true=>
    simp only[hd]at go
    cases x13 with
    |true=>rw[c1 (b:=(true&&true)) rfl];exact er _
    |false=>rw[c0 (b:=(true&&false)) rfl,c0 (b:=!true) rfl,c1 (b:=true) rfl];exact go m true
   |false=>
    simp only[hd]at go
    rw[c0 (b:=(false&&x13)) rfl,c1 (b:=!false) rfl];cases(P7 (some m) u.Num).getD false with
    |true=>rw[c1 (b:=true) rfl];exact er _
    |false=>
     rw[c0 (b:=false) rfl,c0 (b:=false) rfl];exact Rn.step (x:=m) rfl (go _ x13)
 . rw[c0 (df hlt)];refine Rn.ok ?_;obtain⟨k,k',e1,e2,e3⟩:=i7.fn;cases e1;show Og Ep ((O3.get x16.fun_).bind _) _
   dsimp only at e2
   refine Og.step (x:=k') (by rw[e2];rfl) ?_;refine Og.ok ⟨st0.trans (St.loops hfy (a:=f.loops) i7 e2 k'.loops _),?_⟩;have e:2*wS x-1=(2*wS x-2)+1:=by omega
   rw[e];obtain⟨j1,j2,j3,j4,j5⟩:=i4;exact .mk j1 (by rw[j3];exact C0) (by rw[j4];exact C0) (by rw[j5];exact C0) (fun q hq=>(i5 q hq).1) ⟨by dsimp only;omega,by rw[j3];simp,by rw[j4];simp,by rw[j5];simp,by dsimp only;omega,fun q hq=>(i5 q hq).2⟩
theorem QA.one{c c':Q0}{n:Nat}{a:K4}(h:St c c')(ha:Ad n a)(hn:1<=n):QA c n ([a],c'):=⟨h,fun x hx=>by rw[kQ.1 hx];exact ha,by simp;omega⟩
theorem at0{α:Type}{l:List α}(h:1<=l.length):∃y,idx l 0=some y/\y∈l:=⟨l[0],E8 (k:=0) h,jT h⟩
theorem stmt_s6{n:Nat}(h:S6 n):∀c x,Ck c->OkY x->Sc c (wS x)->5*wS x+1<=n+1->Og Ep ((Q9m (n+1)).D6 c x) (QA c (2*wS x)):=by
 intro c x hc hx hs hn;show Og Ep (O2 (Q9m n) c x) _;unfold O2;have hw:=Y2i x;have hww:=hx.w;have hsa:=hx.sa;have pw:=Z5z x;obtain⟨f,hf,hs1,hs2⟩:=id hs;have tg:∀{c'},Tg c c'->St c c':=fun g=>St.of hc g hf;have w1:∀y∈x.A,6*wE y<=70000:=fun y hy=>by have:=(hx.A y hy).w;omega
 by_cases k1:x.Kind=1
 . rw[c1 (by rw[k1];rfl)];obtain⟨u,hu,hum⟩:=at0 (hsa.1 (.inl k1));have ou:=hx.A u hum;refine Og.step hu ?_;refine Og.bind (X1o hc ou) (fun y a=>?_) (fun e he=>Og.err he);obtain⟨a1,t,a2,a3⟩:=a;exact Og.ok (QA.one (tg a1) (by rw[a2];exact Ad.flat (by omega) (fun t ht=>by rw[kQ.1 ht];exact a3.mono (w1 u hum))) (by omega))
 rw[c0 (by simpa using k1)]
 by_cases k2:x.Kind=2
 . rw[c1 (by rw[k2];rfl)];obtain⟨u,hu,hum⟩:=at0 (hsa.2 k2);obtain⟨v1,v2,v3,v4⟩:=hx.V u hum;refine Og.step hu ?_;refine Og.bind (X3x hc hf hs1 v1 v2 v3 v4) (fun y a=>?_) (fun e he=>Og.err he);exact Og.ok ⟨a.1,fun z hz=>(a.2.1 z hz).mono (by omega),by have:=a.2.2;dsimp only;omega⟩
 rw[c0 (by simpa using k2)]
 by_cases k3:x.Kind=3
 . rw[c1 (by rw[k3];rfl)];obtain⟨u,hu,hum⟩:=at0 (hsa.1 (.inr (.inl k3)));refine Og.step hu ?_;refine Og.bind (one_g hc 2 (hx.A u hum)) (fun y a=>?_) (fun e he=>Og.err he);obtain⟨a1,t,a2,a3⟩:=a;have s1:=tg a1;refine Og.bind (h.block _ x.Body s1.ck hx.body (by omega) (Sc.mono (Sc.st hs s1) (by omega)) (by omega)) (fun y4 a4=>?_) (fun e he=>Og.err he);have s2:=s1.trans a4.1;refine Og.bind (h.block _ x.Else s2.ck hx.els (by omega) (Sc.mono (Sc.st hs s2) (by omega)) (by omega)) (fun y5 a5=>?_) (fun e he=>Og.err he);refine Og.ok (QA.one (s2.trans a5.1) ?_ (by omega));rw[a2];exact Ad.mono (n:=2*(sm wS x.Body+sm wS x.Else)+1) (.mk (fun t ht=>by rw[kQ.1 ht];exact a3.mono (w1 u hum)) C0 (fun z hz=>(a4.2.1 z hz).mono (by omega)) (fun z hz=>(a5.2.1 z hz).mono (by omega)) C0 ⟨by simp,by simp,by have:=a4.2.2;dsimp only;omega,by have:=a5.2.2;dsimp only;omega,by simp,C0⟩) (by omega)
 rw[c0 (by simpa using k3)]
 by_cases k4:x.Kind=4
 . rw[c1 (by rw[k4];rfl)];obtain⟨u,hu,hum⟩:=at0 (hsa.1 (.inr (.inr (.inl k4))));refine Og.step hu ?_;refine Og.bind (one_g hc 3 (hx.A u hum)) (fun y a=>?_) (fun e he=>Og.err he);obtain⟨a1,t,a2,a3⟩:=a;have s1:=tg a1;refine Og.bind (h.looped _ x.Body s1.ck hx.body (by omega) (Sc.mono (Sc.st hs s1) (by omega)) (by omega)) (fun y4 a4=>?_) (fun e he=>Og.err he);refine Og.ok (QA.one (s1.trans a4.1) ?_ (by omega));rw[a2];exact Ad.mono (n:=2*sm wS x.Body+1) (.mk (fun t ht=>by rw[kQ.1 ht];exact a3.mono (w1 u hum)) C0 a4.2.1 C0 C0 ⟨by simp,by simp,by have:=a4.2.2;dsimp only;omega,by simp,by simp,C0⟩) (by omega)
 rw[c0 (by simpa using k4)]
 by_cases k5:x.Kind=5
 . rw[c1 (by rw[k5];rfl)];refine Og.bind (h.looped _ x.Body hc hx.body (by omega) (Sc.mono hs (by omega)) (by omega)) (fun y4 a4=>?_) (fun e he=>Og.err he);obtain⟨u,hu,hum⟩:=at0 (hsa.1 (.inr (.inr (.inr (.inl k5)))));refine Og.step hu ?_;refine Og.bind (one_g a4.1.ck 3 (hx.A u hum)) (fun y a=>?_) (fun e he=>Og.err he);obtain⟨a1,t,a2,a3⟩:=a;refine Og.ok (QA.one (a4.1.step a1) ?_ (by omega));rw[a2];exact Ad.mono (n:=2*sm wS x.Body+1) (.mk (fun t ht=>by rw[kQ.1 ht];exact a3.mono (w1 u hum)) C0 a4.2.1 C0 C0 ⟨by simp,by simp,by have:=a4.2.2;dsimp only;omega,by simp,by simp,C0⟩) (by omega)
 rw[c0 (by simpa using k5)];have blk:∀{m:Nat}{l:List K4},(∀z∈l,Ad m z)->m+1<=2*wS x->l.length<=40000*m->Ad (2*wS x) (⟨8,[],[],false,l,[],[],0⟩:K4):=fun hl hm h3=>Ad.mono (.mk C0 C0 hl C0 C0 ⟨by simp,by simp,by dsimp only;omega,by simp,by simp,C0⟩) hm
 by_cases k6:x.Kind=6
 . rw[c1 (by rw[k6];rfl)];exact Og.bind (h.around c x hc hx hs (by omega)) (fun y a=>Og.ok (QA.one a.1 (blk a.2.1 (by omega) a.2.2) (by omega))) (fun e he=>Og.err he)
 rw[c0 (by simpa using k6)]
 by_cases k7:x.Kind=7
 . rw[c1 (by rw[k7];rfl)];exact Og.bind (h.choose c x hc hx hs (hsa.1 (.inr (.inr (.inr (.inr k7))))) (by omega)) (fun y a=>Og.ok (QA.one a.1 (a.2.mono (by omega)) (by omega))) (fun e he=>Og.err he)
 rw[c0 (by simpa using k7)]
 by_cases k8:x.Kind=8
 . rw[c1 (by rw[k8];rfl)];exact Og.bind (answer_g hc hf hx.pn hx.A) (fun y a=>Og.ok (QA.one (tg a.1) (a.2.mono (by omega)) (by omega))) (fun e he=>Og.err he)
 rw[c0 (by simpa using k8)]
 by_cases k11:x.Kind=11
 . rw[c1 (by rw[k11];rfl)];exact Og.bind (h.block c x.Body hc hx.body (by omega) (Sc.mono hs (by omega)) (by omega)) (fun y a=>Og.ok (QA.one a.1 (blk a.2.1 (by omega) a.2.2) (by omega))) (fun e he=>Og.err he)
 rw[c0 (by simpa using k11)];have s0:=tg (Tg.refl hc.tab)
 by_cases k9:x.Kind=9
 . rw[c1 (by rw[k9];rfl)];refine Og.step (x:=f) (by rw[hf];rfl) ?_;cases f.breaks==0 with
   |true=>rw[c1 (b:=true) rfl];exact Q1m hx.pn (by decide)
   |false=>exact Og.ok (QA.one s0 (Ad.flat (by omega) C0) (by omega))
 rw[c0 (by simpa using k9)]
 by_cases k10:x.Kind=10
 . rw[c1 (by rw[k10];rfl)];refine Og.step (x:=f) (by rw[hf];rfl) ?_;cases f.loops==0 with
   |true=>rw[c1 (b:=true) rfl];exact Q1m hx.pn (by decide)
   |false=>exact Og.ok (QA.one s0 (Ad.flat (by omega) C0) (by omega))
 rw[c0 (by simpa using k10)];exact Og.ok ⟨s0,C0,by simp⟩
theorem rdS6:∀n,S6 n
 |0=>⟨fun _ _ _ _ _ _ h=>by omega,fun _ _ _ _ _ _ h=>by omega,fun _ x _ _ _ h=>by have:=Z5z x;omega,fun _ x _ _ _ _ h=>by have:=Z5z x;omega,fun _ _ _ _ _ h=>by omega,fun _ _ _ _ _ _ h=>by omega⟩
 |n+1=>⟨block_s6 (rdS6 n),X6v (rdS6 n),X7r (rdS6 n),X7e (rdS6 n),stmt_s6 (rdS6 n),acts_s6 (rdS6 n)⟩
theorem acts_any{c:Q0}{l:List V8}(hc:Ck c)(hl:∀y∈l,OkS y)(hw:sm wS l<=5000)(hs:Sc c (sm wS l)):Og Ep (J0 c l) (QA c (2*sm wS l)):=(rdS6 NN).acts c l hc hl hw hs (by unfold NN;omega)
def Cd(q:Q5b):Prop:=(∀a∈q.Body,Ad 10000 a)/\q.Body.length<=1000000000/\q.Slots.length<=200
def Cn(c:Q0):Prop:=Ck {c with fun_:=O3.nil}
theorem Ck.codes{c:Q0}(h:Ck c){l:List Q5b}(hl:l.length=c.u.Codes.length):Ck {c with u:={c.u with Codes:=l}}:=⟨h.tab,h.gl,h.co,h.fn,h.gn,h.cn,h.ug,hl.trans h.uc,h.lg,h.lc⟩
theorem Ck.noFun{c:Q0}(h:Ck c):Cn c:=⟨h.tab,h.gl,h.co,trivial,h.gn,h.cn,h.ug,h.uc,h.lg,h.lc⟩
structure Bo(c:Q0)(i:Nat)(c':Q0):Prop where
 cn:Cn c'
 s:c'.signs=c.signs
 d:c'.u.Data=c.u.Data
 g:Gr c.t c'.t
 m:∃q,Cd q/\c'.u.Codes=qP c.u.Codes i q
theorem body_g{c:Q0}(hc:Cn c){i:Nat}(hi:i<c.signs.length){f:L6}(hf:OkF f)(hw:wF f<=5000)(hp:c.signs[i].params.length=f.Params.length):Og Ep (Q0j c (i:Int) f) (Bo c i):=by
 unfold Q0j;have hwf:wF f=1+f.Ret.Stars.toNat+sm wV f.Params+sm wS f.Body:=rfl;have lp:=Q1u Z4q f.Params;have huc:c.u.Codes.length=c.signs.length:=hc.uc;refine Og.step (E8 hi) ?_;have ck1:Ck {c with fun_:=(O3.some (⟨c.signs[i].ret,[],[],([(some [])]:List (Option (List ((Aa)×Int)))),0,0⟩:E1))}:=⟨hc.tab,hc.gl,hc.co,(⟨rfl,by simp,fun m hm=>by rw[kQ.1 hm];exact⟨[],rfl,fun a b hb=>by cases hb⟩,by simp⟩:Fn (⟨c.signs[i].ret,[],[],([(some [])]:List (Option (List ((Aa)×Int)))),0,0⟩:E1)),hc.gn,hc.cn,hc.ug,hc.uc,hc.lg,hc.lc⟩;refine Og.loop (fun s=>0<=s.2.1/\s.2.1<=f.Params.length/\St {c with fun_:=(O3.some (⟨c.signs[i].ret,[],[],([(some [])]:List (Option (List ((Aa)×Int)))),0,0⟩:E1))} {s.2.2 with t:=(⟨s.1⟩:Z9)}) (fun s=>f.Params.length-s.2.1.toNat) ⟨qC 0,by dsimp only;omega,St.refl ck1 rfl⟩ (by dsimp only;omega) ?_;rintro⟨x2,x10,x11⟩ ⟨i1,i2,i3⟩
 dsimp only at i1 i2 i3⊢
 have hsg:x11.signs=c.signs:=by
  have e:=i3.eq;have:=congrArg Q0.signs e;exact this
 by_cases hlt:x10<f.Params.length
 . rw[c1 (dt hlt)];obtain⟨v,hv,hvm⟩:=S7 ⟨i1,hlt⟩;refine Rn.step hv ?_;refine Rn.step (show idx x11.signs (i:Int)=some c.signs[i] by rw[hsg];exact E8 hi) ?_;obtain⟨p,hp2,_⟩:=S7 (l:=c.signs[i].params) (n:=x10) ⟨i1,by rw[hp];exact hlt⟩;refine Rn.step hp2 ?_;obtain⟨k,k',e1,e2,e3⟩:=i3.fn;cases e1;refine Rn.bindG (Y9n i3.ck e2 (by rw[e3];exact qD 1) (hf.ps v hvm).pos _ _) (fun y a=>?_) (fun e he=>Rn.ok (Og.err he));exact Rn.ok ⟨⟨by dsimp only;rw[w64 (by omega)];omega,by dsimp only;rw[w64 (by omega)];omega,i3.trans a⟩,by dsimp only;rw[w64 (by omega)];omega⟩
 . rw[c0 (df hlt)];refine Rn.ok ?_;obtain⟨k,k',e1,e2,e3⟩:=i3.fn;cases e1;show Og Ep ((J0 _ _).bind _) _;refine Og.bind (acts_any i3.ck hf.body (by omega) ⟨k',e2,by rw[e3];exact qD 1,by rw[e3];show 1+_<=_;omega⟩) (fun y a=>?_) (fun e he=>Og.err he);have st:=i3.trans a.1;obtain⟨q,q',f1,f2,f3⟩:=st.fn;cases f1;have hfq:=st.ck.fn;rw[f2]at hfq;have hfq:Fn q':=hfq
   have eu:y.2.u=c.u:=by
    have e:=congrArg Q0.u st.eq;exact e
   have es:y.2.signs=c.signs:=by
    have e:=congrArg Q0.signs st.eq;exact e
   have hlc:i<y.2.u.Codes.length:=by rw[eu];omega
   refine Og.step (x:=q') (by rw[f2];rfl) ?_;obtain⟨u8,hu8⟩:∃u,idx y.2.u.Codes (i:Int)=some u:=⟨_,E8 hlc⟩;refine Og.step hu8 ?_;refine Og.step hu8 ?_
   have hl2:idx (qP y.2.u.Codes (qF (i:Int)) ({u8 with Body:=y.1})) (i:Int)=some {u8 with Body:=y.1}:=by
    rw[Int.toNat_natCast,E8 (by rw[List.length_set];exact hlc),List.getElem_set_self]
   refine Og.step hl2 ?_;refine Og.step hl2 ?_;refine Og.ok ⟨(st.ck.codes (by simp)).noFun,es,by dsimp only;rw[eu],st.gr,_,?_,by dsimp only;rw[eu,Int.toNat_natCast,List.set_set]⟩;exact⟨fun z hz=>(a.2.1 z hz).mono (by omega),by have:=a.2.2;dsimp only;omega,hfq.le⟩
structure Uo(u:Z4a):Prop where
 g:u.Globals.length<=200
 d:u.Data.length<=5000
 c:u.Codes.length<=200
 cd:∀q∈u.Codes,Cd q
theorem try_g{p:U3}(hp:OkP p)(hw:wP p<=5000){c:Q0}(hc:Ck c)(hf:c.fun_=O3.nil)(h0:c.signs=[])(hd:c.u.Data=[]):Og Ep (Q0x c p) (fun c'=>Uo c'.u):=by
 have hwp:wP p=sm wT p.Structs+sm wV p.Globals+sm wF p.Funcs:=rfl;have lS:=Q1u X0c p.Structs;have lG:=Q1u Z4q p.Globals;have lF:=Q1u X0d p.Funcs
 have oV:∀{v:J2}{k:Nat},wV v<=k->k<=5000->v.Dims.length<=5000/\(∀x∈v.Init,wE x<=10000)/\v.Init.length<=5000:=fun{v k} h1 h2=>by
  have h3:wV v=1+v.Type_.Stars.toNat+v.Dims.length+sm wE v.Init:=rfl;have h4:=Q1u Q3k v.Init;exact⟨by omega,fun x hx=>by have:=Z2r wE hx;omega,by omega⟩
 unfold Q0x;refine Og.bind (X6l hc.tab (by omega) (fun s hs=>?_)) (fun y1 a1=>?_) (fun e he=>Og.err he)
 . have h1:=Z2r wT hs;have h2:wT s=1+sm wV s.Fields:=rfl;have h3:=hp.s s hs;have h4:=Q1u Z4q s.Fields;exact⟨h3.2.2,fun v hv=>⟨h3.2.1 v hv,by have:=Z2r wV hv;have:wV v=1+v.Type_.Stars.toNat+v.Dims.length+sm wE v.Init:=rfl;omega⟩,by omega⟩
 have e1:=a1.eq;have ck1:=hc.tt a1;have f1:y1.fun_=c.fun_:=by rw[e1]
 have s1:y1.signs=[]:=by rw[e1];exact h0
 have d1:y1.u.Data=[]:=by rw[e1];exact hd
 refine Og.loop (fun s=>0<=s.1/\s.1<=p.Globals.length/\Ck {s.2.1 with t:=s.2.2}/\s.2.1.fun_=O3.nil/\s.2.1.signs=[]/\(s.2.1.u.Data.length:Int)=s.1) (fun s=>p.Globals.length-s.1.toNat) ⟨qC 0,by dsimp only;omega,by dsimp only;rw[<-f1];exact ck1,hf,s1,by dsimp only;rw[d1];rfl⟩ (by dsimp only;omega) ?_;rintro⟨x10,x11,x12⟩ ⟨i1,i2,i3,i4,i5,i6⟩
 dsimp only at i1 i2 i3 i4 i5 i6⊢
 by_cases hlt:x10<p.Globals.length
 . rw[c1 (dt hlt)];obtain⟨v,hv,hvm⟩:=S7 ⟨i1,hlt⟩;have hwv:=Z2r wV hvm;obtain⟨v1,v2,v3⟩:=oV hwv (by omega);refine Rn.step hv ?_;refine Rn.bindG (global_g i3 (hp.g v hvm) v1 v2 v3 (by dsimp only;omega)) (fun y a=>?_) (fun e he=>Rn.ok (Og.err he));exact Rn.ok ⟨⟨by dsimp only;rw[w64 (by omega)];omega,by dsimp only;rw[w64 (by omega)];omega,a.ck,a.f.trans i4,a.s.trans i5,by have:=a.d;dsimp only at this⊢;rw[w64 (by omega)];omega⟩,by dsimp only;rw[w64 (by omega)];omega⟩
 rw[c0 (df hlt)];refine Rn.ok ?_;show Og Ep ((loopM _ NN _).bind _) _
 clear hlt
 refine Og.loop (fun s=>0<=s.1/\s.1<=p.Funcs.length/\Ck {s.2.1 with t:=s.2.2}/\s.2.1.fun_=O3.nil/\(s.2.1.signs.length:Int)=s.1/\(∀(j:Nat)(a:H7)(f:L6),s.2.1.signs[j]?=some a->p.Funcs[j]?=some f->a.params.length=f.Params.length)/\s.2.1.u.Data.length<=5000) (fun s=>p.Funcs.length-s.1.toNat) ⟨qC 0,by dsimp only;omega,i3,i4,by dsimp only;rw[i5];rfl,fun j a f h=>(by dsimp only at h;rw[i5]at h;simp at h),by dsimp only;omega⟩ (by dsimp only;omega) ?_
 clear i3 i4 i5 i6
 rintro⟨x22,x23,x24⟩ ⟨j1,j2,j3,j4,j5,j6,j7⟩
 dsimp only at j1 j2 j3 j4 j5 j6 j7⊢
 by_cases hlt:x22<p.Funcs.length
 . rw[c1 (dt hlt)];obtain⟨k,rfl⟩:=jR j1;have hk:k<p.Funcs.length:=by omega
   have hm:=jT hk;have ho:=hp.f _ hm;have hwv:=Z2r wF hm;have hwf:wF p.Funcs[k]=1+p.Funcs[k].Ret.Stars.toNat+sm wV p.Funcs[k].Params+sm wS p.Funcs[k].Body:=rfl;have lp:=Q1u Z4q p.Funcs[k].Params;refine Rn.step (E8 hk) ?_;refine Rn.bindG (header_g j3 ⟨ho.pos,ho.ty,ho.ps,by omega⟩) (fun y a=>?_) (fun e he=>Rn.ok (Og.err he));obtain⟨sg,sg1,sg2⟩:=a.s
   dsimp only at sg1
   have fn:=a.f
   dsimp only at fn
   refine Rn.ok ⟨⟨by dsimp only;rw[w64 (by omega)];omega,by dsimp only;rw[w64 (by omega)];omega,?_,j4,by dsimp only;rw[w64 (by omega),sg1,qW];simp;omega,fun j b f h1 h2=>?_,by have:=a.d;dsimp only at this⊢;rw[this];exact j7⟩,by dsimp only;rw[w64 (by omega)];omega⟩
   . dsimp only
     rw[<-fn];exact a.ck
   . dsimp only at h1
     rw[sg1]at h1
     by_cases hj:j<x23.signs.length
     . rw[kR hj]at h1;exact j6 j b f h1 h2
     . have hjk:j=k:=by
        have:=(List.getElem?_eq_some_iff.1 h1).1;rw[qW,qG]at this;omega
       subst hjk;rw[kS (by omega),show j-x23.signs.length=0 by omega]at h1;cases h1;rw[kM hk]at h2;cases h2;exact sg2
 rw[c0 (df hlt)];refine Rn.ok ?_;show Og Ep ((S4 _ _).bind _) _;have hFl:x23.signs.length=p.Funcs.length:=by omega
 refine Og.bind (main_g j3 (by dsimp only;omega) (fun f hf=>(hp.f f hf).pos)) (fun y4 a4=>?_) (fun e he=>Og.err he);obtain⟨mn,rfl⟩:=a4
 dsimp only
 have ck4:Cn {x23 with t:=x24,u:={x23.u with Main:=mn}}:=⟨j3.tab,j3.gl,j3.co,trivial,j3.gn,j3.cn,j3.ug,j3.uc,j3.lg,j3.lc⟩;have hcl:=ck4.lc
 dsimp only at hcl
 refine Og.loop (fun s=>0<=s.1/\s.1<=p.Funcs.length/\Cn {s.2.1 with t:=s.2.2}/\s.2.1.signs=x23.signs/\s.2.1.u.Data=x23.u.Data/\(∀(j:Nat)(q:Q5b),(j:Int)<s.1->s.2.1.u.Codes[j]?=some q->Cd q)) (fun s=>p.Funcs.length-s.1.toNat) ⟨qC 0,by dsimp only;omega,ck4,rfl,rfl,fun j q h=>by dsimp only at h;omega⟩ (by dsimp only;omega) ?_
 clear ck4 j3 hlt
 rintro⟨x34,x35,x36⟩ ⟨k1,k2,k3,k4,k5,k6⟩
 dsimp only at k1 k2 k3 k4 k5 k6⊢
 have huc:=k3.uc;have hug:=k3.ug;have hlg:=k3.lg
 dsimp only at huc hug hlg
 by_cases hlt:x34<p.Funcs.length
 . rw[c1 (dt hlt)];obtain⟨k,rfl⟩:=jR k1;have hk:k<p.Funcs.length:=by omega
   have hm:=jT hk;have ho:=hp.f _ hm;have hwv:=Z2r wF hm;have hs:k<({x35 with t:=x36}:Q0).signs.length:=by dsimp only;rw[k4];omega
   have hsp:({x35 with t:=x36}:Q0).signs[k].params.length=p.Funcs[k].Params.length:=by
    refine j6 k _ _ ?_ (kM hk);rw[<-k4];exact kM hs
   refine Rn.step (E8 hk) ?_;refine Rn.bindG (body_g k3 hs ho (by omega) hsp) (fun y a=>?_) (fun e he=>Rn.ok (Og.err he));obtain⟨q,q1,q2⟩:=a.m;refine Rn.ok ⟨⟨by dsimp only;rw[w64 (by omega)];omega,by dsimp only;rw[w64 (by omega)];omega,a.cn,a.s.trans k4,a.d.trans k5,fun j r h1 h2=>?_⟩,by dsimp only;rw[w64 (by omega)];omega⟩
   dsimp only at h1 h2
   rw[w64 (by omega)]at h1;rw[q2,List.getElem?_set]at h2
   split at h2
   . split at h2
     . cases h2;exact q1
     . cases h2
   . exact k6 j r (by omega) h2
 . rw[c0 (df hlt)];refine Rn.ok (Og.ok ⟨by dsimp only;omega,by dsimp only;rw[k5];exact j7,by dsimp only;rw[huc,k4];exact hcl,fun q hq=>?_⟩);obtain⟨j,hj,rfl⟩:=List.getElem_of_mem hq
   dsimp only at hj
   exact k6 j _ (by rw[huc,k4]at hj;omega) (kM hj)
theorem newTab:∃t,Y4h=some t/\Tab t:=by
 refine⟨_,rfl,by decide,by decide,fun k hk=>?_⟩
 simp only[qZ,List.not_mem_nil,or_false]at hk
 rcases hk with rfl|rfl|rfl
 . exact⟨by decide,by decide,fun h=>absurd rfl h,fun h=>(by cases h),fun h=>(by cases h),by simp⟩
 . exact⟨by decide,by decide,fun _=>(by decide),fun h=>(by cases h),fun h=>(by cases h),by simp⟩
 . exact⟨by decide,by decide,fun _=>(by decide),fun h=>(by cases h),fun h=>(by cases h),by simp⟩
theorem X7t{p:U3}(hp:OkP p)(hw:wP p<=5000):∃u q e,Q2v p=some (u,q,e)/\((e=0/\q=⟨0,0⟩)\/(e≠0/\Pn q))/\Uo u:=by
 obtain⟨t,ht,hT⟩:=newTab;unfold Q2v;rw[ht,qV];have h:=try_g hp hw (c:=⟨t,⟨[],[],[],0⟩,some [],some [],[],[],O3.nil⟩) ⟨hT,⟨[],rfl,fun a b h=>(by cases h)⟩,⟨[],rfl,fun a b h=>(by cases h)⟩,trivial,rfl,rfl,rfl,rfl,by simp,by simp⟩ rfl rfl rfl;obtain⟨z,hz,hq⟩:=h;rw[hz,qV];cases z with
 |error e=>exact⟨_,_,_,rfl,.inr ⟨hq.2,hq.1⟩,⟨by simp,by simp,by simp,fun q h=>by cases h⟩⟩
 |ok c'=>exact⟨_,_,_,rfl,.inl ⟨rfl,rfl⟩,hq⟩
theorem Z2h{α:Type}[BEq α][LawfulBEq α](x:α):(x !=x)=false:=by simp
theorem Q9o{R A:Type}{body:Int->Option (Lp Int R)}{f:Lp Int R->Option A}{X:Option A}(n:Nat)(hn:n<=1000000000)(h1:∀k,k<n->body (k:Int)=some (.go (qJ .i64 ((k:Int)+1))))(h2:body (n:Int)=some (.brk (n:Int)))(hX:f (.brk (n:Int))=X):(loopM body NN 0).bind f=X:=
 run_bind (fun k=>(k:Int)) n (.brk (n:Int)) rfl (by omega) (fun k hk=>by rw[h1 k hk,w64 (by omega)];rfl) h2 trivial hX
theorem Y6x(l:List Q9j)(hl:l.length<=1000000000):Z1m l l=some true:=by
 unfold Z1m;rw[c0 (Z2h _)];refine Q9o l.length hl (fun k hk=>?_) (by rw[c0 (dge _)]) rfl;rw[c1 (dlt hk),E8 hk]
 simp only[qV,Z2h,Aj]
theorem Y9e:∀(n m:Nat)(l:List Y9),(∀t∈l,Dp n t)->l.length<=1000000000->n<m->(rec9 m).Q2h l l=some true
 |n,0,l,h,hl,hm=>by omega
 |n,m+1,l,h,hl,hm=>by
  show Z2c (rec9 m) l l=_
  unfold Z2c
  rw[c0 (Z2h _)]
  refine Q9o l.length hl (fun k hk=>?_) (by rw[c0 (dge _)]) rfl
  have hd:=h _ (jT hk)
  rw[c1 (dlt hk),E8 hk]
  simp only[jn,qV,Z2h,beq_self_eq_true,Bool.not_true,Bool.or_false,Aj]
  generalize l[k]=t at hd⊢
  cases hd with
  |@mk n' _ hk' _ kl=>
   rw[Y9e n' m t.Kids hk' (by omega) (by omega)]
   rfl
theorem X2h{l:List Y9}(h:∀t∈l,Dp 70000 t)(hl:l.length<=1000000000):Q2h l l=some true:=Y9e 70000 NN l h hl (by unfold NN;omega)
theorem Z8r:∀(n m:Nat)(l:List K4),(∀t∈l,Ad n t)->l.length<=1000000000->n<m->(X2j m).W4 l l=some true
 |n,0,l,h,hl,hm=>by omega
 |n,m+1,l,h,hl,hm=>by
  show Z0i (X2j m) l l=_
  unfold Z0i
  rw[c0 (Z2h _)]
  refine Q9o l.length hl (fun k hk=>?_) (by rw[c0 (dge _)]) rfl
  have hd:=h _ (jT hk)
  rw[c1 (dlt hk),E8 hk]
  simp only[jn,qV,Z2h,beq_self_eq_true,Bool.not_true,Bool.or_false,Aj]
  generalize l[k]=t at hd⊢
  cases hd with
  |@mk n' _ A P b e c al=>
   rw[X2h A al.A]
   simp only[qV,Bool.not_true,Aj]
   rw[X2h P al.P]
   simp only[qV,Bool.not_true,Aj]
   rw[Z8r n' m t.Body b al.b (by omega)]
   simp only[qV,Bool.not_true,Aj]
   rw[Z8r n' m t.Else e al.e (by omega)]
   simp only[qV,Bool.not_true,Aj]
   refine Q9o t.Cases.length al.c (fun j hj=>?_) (by rw[c0 (dge _)]) rfl
   have hm:=jT hj
   rw[c1 (dlt hj),E8 hj]
   simp only[qV,Z2h,beq_self_eq_true,Bool.not_true,Bool.or_false,Aj]
   rw[Z8r n' m t.Cases[j].Body (c _ hm) (al.cb _ hm) (by omega)]
   rfl
theorem X7s{u:Z4a}(h:Uo u):Z5c u u=some true:=by
 have hg:=h.g;have hd:=h.d;have hc:=h.c;unfold Z5c;rw[Y6x _ (by omega)]
 simp only[qV,Z2h,Bool.not_true,Bool.or_false,Aj]
 refine Q9o u.Data.length (by omega) (fun k hk=>?_) (by rw[c0 (dge _)]) ?_
 . rw[c1 (dlt hk),E8 hk]
   simp
 refine Q9o u.Codes.length (by omega) (fun k hk=>?_) (by rw[c0 (dge _)]) rfl;have hq:=h.cd _ (jT hk);rw[c1 (dlt hk),E8 hk]
 simp only[jn,qV,Z2h,beq_self_eq_true,Bool.not_true,Bool.or_false,Aj]
 rw[Y6x _ (by have:=hq.2.2;omega)]
 simp only[qV,Bool.not_true,Aj]
 rw[show W4 u.Codes[k].Body u.Codes[k].Body=some true from Z8r 10000 NN _ hq.1 hq.2.1 (by unfold NN;omega)]
 rfl
end Go.Proofs.YtjohcgibbiebkaaGreatDoor
