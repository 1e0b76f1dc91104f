/- Lemmas that hold for every program. -/
import Derived.Test.YtbfpdnogfkbiaaaGreatVM
import Derived.Test.YtbfpdnogfkbiaaaGreatVLB
import Derived.Lib.IndexBytes
set_option linter.unusedVariables false
namespace Go.Proofs.YtbfpdnogfkbiaaaGreat
open List renaming length → qQ, length_append → qW, length_cons → qY, mem_cons → qZ, mem_append → jQ, set → qP, length_take → qE, mem_singleton → kQ, getElem_mem → jT
open IntKind renaming wrap → qJ
open Except renaming error → qK, ok → qX
open Option renaming bind_some → qV, isSome → kJ
open Nat renaming le_refl → qD, zero_le → kX, le_of_ble_eq_true → kN, le_trans → jH
open UInt8 renaming toNat → qA
open Int renaming eq_ofNat_of_zero_le → jR
theorem bnd{α β:Type}{m:Option α}{x:α}{f:α->Option β}{X:Option β}(h:m=some x)(k:f x=X):m.bind f=X:=by subst h;exact k
theorem exb{α β:Type}{m:Option α}{x:α}{f:α->Option β}{p:β->Prop}(h:m=some x)(k:∃y,f x=some y/\p y):∃y,m.bind f=some y/\p y:=by subst h;exact k
def letB(n:Int):Bool:=(decide (97<=n)&&decide (n<=122))||(decide (65<=n)&&decide (n<=90))||n==95
def digB(n:Int):Bool:=decide (48<=n)&&decide (n<=57)
def Y8y(c:UInt8):Bool:=letB (c.toNat:Int)||digB (c.toNat:Int)
theorem Y8z(n:Int):Z4h n=some (letB n):=by
 unfold Z4h letB;cases decide (97<=n)<;>cases decide (n<=122)<;>cases decide (65<=n)<;>cases decide (n<=90)<;>rfl
theorem Y7t(n:Int):Z4i n=some (digB n):=by
 unfold Z4i digB;cases decide (48<=n)<;>rfl
theorem more_eq(c:UInt8):Y1l (c.toNat:Int)=some (Y8y c):=by
 unfold Y1l Y8y;rw[Y8z,qV];cases letB (c.toNat:Int)with
 |true=>rfl
 |false=>rw[cond_false,Y7t];rfl
theorem X4i(p:UInt8->Bool)(l:List UInt8)(hl:l.length<=100000){body:Int->Option (Lp Int Unit)}(h1:∀k (h:k<l.length),body (k:Int)=some (bif p l[k]then .go (qJ .i64 ((k:Int)+1))else .brk (k:Int)))(h2:body (l.length:Int)=some (.brk (l.length:Int))):
 ∃n:Nat,(X5 body NN 0).bind (fun o=>o.thn (fun x=>some x) (fun _=>none))=some (n:Int)/\n<=l.length/\(1<=n\/∀c q,l=c::q->p c=false):=by
 obtain⟨o,e,n,rfl,h⟩:=L5 (body:=body) (n:=NN) (s:=0) (fun x=>∃k:Nat,x=(k:Int)/\k<=l.length) (fun x=>l.length-x.toNat) (fun o=>∃n:Nat,o= .brk (n:Int)/\n<=l.length/\(1<=n\/∀c q,l=c::q->p c=false)) ⟨0,rfl,kX _⟩ (Q6f (by omega)) (by
  rintro x ⟨k,rfl,hk⟩
  by_cases h:k<l.length
  . rw[h1 k h];cases hp:p l[k]with
    |true=>exact⟨_,rfl,⟨k+1,by rw[w64 (by omega)];omega,h⟩,by rw[w64 (by omega)];omega⟩
    |false=>
     refine⟨_,rfl,k,rfl,hk,?_⟩;cases k with
     |zero=>exact .inr fun c q e=>by subst e;exact hp
     |succ k=>exact .inl (Nat.succ_le_succ (kX _))
  . have:k=l.length:=by omega
    subst this;rw[h2];refine⟨_,rfl,_,rfl,hk,?_⟩;cases l with
    |nil=>exact .inr fun c q e=>by cases e
    |cons c q=>exact .inl (by simp))
 exact⟨n,by rw[e];rfl,h⟩
theorem X5d(l:List UInt8)(hl:l.length<=100000):∃n:Nat,Z5z l=some (n:Int)/\n<=l.length/\(1<=n\/∀c q,l=c::q->Y8y c=false):=
 X4i Y8y l hl (fun k hk=>by rw[c1 (dlt hk),C1 hk,qV,more_eq,qV];cases Y8y l[k]<;>rfl) (by rw[c0 (dge _)])
def words:List (List UInt8):=[([98,114,101,97,107]:List UInt8),([99,97,115,101]:List UInt8),([99,104,97,114]:List UInt8),([99,111,110,116,105,110,117,101]:List UInt8),([100,101,102,97,117,108,116]:List UInt8),([100,111]:List UInt8),([101,108,115,101]:List UInt8),([102,111,114]:List UInt8),([105,102]:List UInt8),([105,110]:List UInt8),([105,110,116]:List UInt8),([111,117,116]:List UInt8),([114,101,116,117,114,110]:List UInt8),([115,105,122,101,111,102]:List UInt8),([115,116,114,117,99,116]:List UInt8),([115,119,105,116,99,104]:List UInt8),([118,111,105,100]:List UInt8),([119,104,105,108,101]:List UInt8)]
def wordB(p:List UInt8):Bool:=words.any fun w=>decide (p=w)
theorem wd1(b:Bool)(X:Option Bool):(bif b then(bif b then some true else some false)else X)=bif b then some true else X:=by cases b<;>rfl
theorem wd3(b:Bool):(bif b then some true else some false)=some b:=by cases b<;>rfl
theorem wd4(b x:Bool):(bif b then some b else some x)=some (b||x):=by cases b<;>rfl
theorem Word_eq(p:List UInt8):Y1o p=some (wordB p):=by
 unfold Y1o wordB words
 simp only[jn,wd3,wd4,List.any_cons,List.any_nil,Bool.or_false]
theorem Y4a{b:List UInt8}{n:Nat}(h:n<=b.length):sub b (n:Int) (b.length:Int)=some (b.drop n):=by
 unfold sub;rw[if_pos (by omega)]
 simp
theorem Y0w{b:List UInt8}{n:Nat}(h:n<=b.length):sub b 0 (n:Int)=some (b.take n):=by
 unfold sub;rw[if_pos (by omega)]
 simp
theorem X2e(s p:List UInt8):N9 s p=some (decide (p<+:s)):=by
 unfold N9 Q5o
 by_cases h:p.length<=s.length
 . rw[c1 (dt (by omega)),Y0w h,qV,qV]
   congr 1
   refine decide_eq_decide.2 ⟨fun e=>List.prefix_iff_eq_take.2 e.symm,fun e=>(List.prefix_iff_eq_take.1 e).symm⟩
 . rw[c0 (df (by omega)),df (fun e=>h e.length_le)]
   rfl
theorem X4b(c:UInt8):∃b,Z0v (c.toNat:Int)=some b:=by
 unfold Z0v;cases((c.toNat:Int)==32)<;>cases((c.toNat:Int)==9)<;>cases((c.toNat:Int)==10)<;>exact⟨_,rfl⟩
theorem span_any(l:List UInt8)(hl:l.length<=100000):∃n:Nat,Y4k l=some (n:Int)/\n<=l.length:=by
 obtain⟨n,e,h,_⟩:=X4i (fun c=>(Z0v (c.toNat:Int)).getD false) l hl (body:=fun(x1:Int)=>(bif decide (x1<(qQ l:Int))then((idx l x1).bind fun u1=>(Z0v (qA u1:Int)).bind fun y1=>bif y1 then(some (Lp.go (qJ .i64 (x1+1))))else(some (Lp.brk x1)))else(some (Lp.brk x1)):Option (Lp (Int) (Unit)))) (fun k hk=>by
  obtain⟨b,hb⟩:=X4b l[k];rw[c1 (dlt hk),C1 hk,qV,hb,qV];cases b<;>rfl) (by rw[c0 (dge _)])
 exact⟨n,e,h⟩
theorem X2d:∀(s sub:List UInt8),sub≠[]->0<=Go.Lib.index s sub->Go.Lib.index s sub+sub.length<=s.length
 |[],sub,hn,h=>by
  unfold Go.Lib.index at h
  rw[if_neg (by simpa using hn)]at h
  omega
 |b::l,sub,hn,h=>by
  unfold Go.Lib.index at h⊢
  by_cases h1:sub.isPrefixOf (b::l)=true
  . rw[if_pos h1]
    have:=(List.isPrefixOf_iff_prefix.1 h1).length_le
    omega
  . rw[if_neg h1]at h⊢
    by_cases h2:(Go.Lib.index l sub== -1)=true
    . rw[if_pos h2]at h;omega
    . rw[if_neg h2]at h⊢
      have hge:=Go.Lib.index_ge l sub
      have hne:Go.Lib.index l sub≠ -1:=by simpa using h2
      have:=X2d l sub hn (by omega)
      simp
      omega
theorem X6e(s:List UInt8)(hl:s.length<=100000):∃n:Int,Z5r s=some n/\n<=s.length:=by
 have hi:=Go.Lib.index_le s [10];unfold Z5r;refine exb (X2e _ _) ?_;cases decide (([47,47]:List UInt8)<+:s)with
 |true=>
  refine exb (x:=Go.Lib.index s [10]) (by unfold strings_Index;rw[if_pos (by omega)]) ?_
  by_cases h2:0<=Go.Lib.index s [10]
  . rw[c1 (dt h2)];exact⟨_,rfl,hi⟩
  . rw[c0 (df h2)];exact⟨_,rfl,Int.le_refl _⟩
 |false=>
  rw[cond_false];refine exb (X2e _ _) ?_
  by_cases h2:([47,42]:List UInt8)<+:s
  . have hl2:=h2.length_le;have hi2:=Go.Lib.index_le (s.drop 2) [42,47];have hf:=X2d (s.drop 2) [42,47] (by decide)
    simp only[List.length_drop,qY,List.length_nil]at hl2 hi2 hf
    rw[dt h2,cond_true];refine exb (show sub s 2 (s.length:Int)=some (s.drop 2)from Y4a hl2) ?_;refine exb (x:=Go.Lib.index (s.drop 2) [42,47]) (by unfold strings_Index;rw[if_pos (by simp;omega)]) ?_
    by_cases h3:Go.Lib.index (s.drop 2) [42,47]<0
    . rw[c1 (dt h3)];exact⟨_,rfl,by omega⟩
    . rw[c0 (df h3),w64 (by omega)];exact⟨_,rfl,by have:=hf (by omega);omega⟩
  . rw[df h2,cond_false];obtain⟨n,e,h⟩:=span_any s hl;exact exb e ⟨_,rfl,by omega⟩
def outW:List UInt8:=[111,117,116]
theorem X1j(n:Int):∃w,Q9y n=some w:=by
 unfold Q9y;rw[Y7t,qV];cases digB n<;>cases decide (97<=n)<;>cases decide (n<=102)<;>cases decide (65<=n)<;>cases decide (n<=70)<;>exact⟨_,rfl⟩
def U32(n:Int):Prop:=0<=n/\n<4294967296
theorem Y3e(n:Int):U32 (qJ .u32 n):=by
 unfold U32
 simp only[qJ,IntKind.signed,IntKind.bits]
 simp
 omega
theorem Q4t:U32 0:=⟨by decide,by decide⟩
def numK(u1:List UInt8)(x1:List UInt8)(x2:Int):Option (U4×Int):=bif decide (x1=([]:List UInt8))then(some ((⟨0,([]:List UInt8),0,(⟨0,0⟩:Pos)⟩:U4),(3:Int)))else((L1 (qQ x1)).bind fun _=>(X5 (fun(x3,x4,x5)=>(bif decide (x5<(qQ (A2 x1):Int))then(jn (fun kk2=>(idx (A2 x1) x5).bind fun u4=>(Q9y u4).bind fun y4=>bif decide (x2<=y4)then(some (Lp.ret ((⟨0,([]:List UInt8),0,(⟨0,0⟩:Pos)⟩:U4),(3:Int))))else((Q9y u4).bind fun y5=>bif decide (4294967295<(qJ .u64 ((qJ .u64 (x3*x2))+y5)))then(kk2 (4294967295:Int) true)else(kk2 (qJ .u64 ((qJ .u64 (x3*x2))+y5)) x4))) (fun(x6:Int)(x7:Bool)=>some (Lp.go (x6,x7,qJ .i64 (x5+1)))))else(some (Lp.brk (x3,x4,x5))):Option (Lp (Int×Bool×Int) (U4×Int)))) NN (0,false,0)).bind fun o=>o.thn (fun(x3,x4,x5)=>bif x4 then(some ((⟨0,([]:List UInt8),0,(⟨0,0⟩:Pos)⟩:U4),(7:Int)))else(some ((⟨3,u1,qJ .u32 x3,(⟨0,0⟩:Pos)⟩:U4),(0:Int)))) (fun r=>some r))
def numT(u1:List UInt8):Option (U4×Int):=jn (fun kk1=>(N9 u1 ([48,120]:List UInt8)).bind fun y2=>bif y2 then((sub u1 2 (qQ u1:Int)).bind fun u3=>kk1 u3 (16:Int))else((N9 u1 ([48,88]:List UInt8)).bind fun y3=>bif y3 then((sub u1 2 (qQ u1:Int)).bind fun u2=>kk1 u2 (16:Int))else(kk1 u1 (10:Int)))) (numK u1)
theorem Y3k(u x:List UInt8)(b:Int)(hl:x.length<=100000):∃y,numK u x b=some y/\(y.2=0->y.1.Text=u/\y.1.Kind=3/\U32 y.1.Num):=by
 unfold numK
 by_cases hx:x=[]
 . rw[c1 (dt hx)];exact⟨_,rfl,fun h=>by cases h⟩
 rw[c0 (df hx),B7 (by omega),qV];have hsl:(A2 x).length=x.length:=by simp[A2]
 obtain⟨o,ho,hp⟩:=L5 (R:=U4×Int) (body:=fun(x3,x4,x5)=>(bif decide (x5<(qQ (A2 x):Int))then(jn (fun kk2=>(idx (A2 x) x5).bind fun u4=>(Q9y u4).bind fun y4=>bif decide (b<=y4)then(some (Lp.ret ((⟨0,([]:List UInt8),0,(⟨0,0⟩:Pos)⟩:U4),(3:Int))))else((Q9y u4).bind fun y5=>bif decide (4294967295<(qJ .u64 ((qJ .u64 (x3*b))+y5)))then(kk2 (4294967295:Int) true)else(kk2 (qJ .u64 ((qJ .u64 (x3*b))+y5)) x4))) (fun(x6:Int)(x7:Bool)=>some (Lp.go (x6,x7,qJ .i64 (x5+1)))))else(some (Lp.brk (x3,x4,x5))):Option (Lp (Int×Bool×Int) (U4×Int))))
  (n:=NN) (s:=(0,false,0)) (fun s=>∃k:Nat,s.2.2=(k:Int)/\k<=x.length) (fun s=>x.length-s.2.2.toNat) (fun o=>(∃s,o= .brk s)\/o= .ret ((⟨0,[],0,⟨0,0⟩⟩:U4),3)) ⟨0,rfl,by omega⟩ (Q6f (by dsimp only;omega)) (by
   rintro⟨a,f,i⟩ ⟨k,hk,hk2⟩
   dsimp only at hk⊢
   subst hk;rw[hsl]
   by_cases h:k<x.length
   . rw[c1 (dt (by omega))]
     simp only[jn]
     rw[C1 (by rw[hsl];exact h),qV];obtain⟨wv,hw⟩:=X1j (A2 x)[k];rw[hw,qV,qV]
     by_cases h1:b<=wv
     . rw[c1 (dt h1)];exact⟨_,rfl,.inr rfl⟩
     . rw[c0 (df h1)];cases decide (4294967295<(qJ .u64 ((qJ .u64 (a*b))+wv)))<;>exact⟨_,rfl,⟨k+1,by dsimp only;rw[w64 (by omega)];omega,by omega⟩,by dsimp only;rw[w64 (by omega)];omega⟩
   . rw[c0 (df (by omega))];exact⟨_,rfl,.inl ⟨_,rfl⟩⟩)
 refine exb ho ?_
 rcases hp with⟨⟨a,f,i⟩,rfl⟩|rfl
 . dsimp only[Lp.thn]
   cases f with
   |true=>exact⟨_,rfl,fun h=>by cases h⟩
   |false=>exact⟨_,rfl,fun _=>⟨rfl,rfl,Y3e _⟩⟩
 . exact⟨_,rfl,fun h=>by cases h⟩
theorem X3u(u:List UInt8)(hl:u.length<=100000):∃y,numT u=some y/\(y.2=0->y.1.Text=u/\y.1.Kind=3/\U32 y.1.Num):=by
 unfold numT
 simp only[jn]
 refine exb (X2e _ _) ?_
 by_cases h1:([48,120]:List UInt8)<+:u
 . have:=h1.length_le
   simp at this
   rw[dt h1,cond_true];exact exb (Y4a (b:=u) (n:=2) this) (Y3k _ _ _ (by simp;omega))
 . rw[df h1,cond_false];refine exb (X2e _ _) ?_
   by_cases h2:([48,88]:List UInt8)<+:u
   . have:=h2.length_le
     simp at this
     rw[dt h2,cond_true];exact exb (Y4a (b:=u) (n:=2) this) (Y3k _ _ _ (by simp;omega))
   . rw[df h2,cond_false];exact Y3k _ _ _ hl
structure Tk(n:Nat)(t:U4):Prop where
 a:1<=t.Text.length
 b:t.Text.length<=n
 o:t.Kind=1->t.Text≠outW
 u:U32 t.Num
theorem X5v(n:Int):∃y,Z6b n=some y:=by
 unfold Z6b jn;cases n==110<;>cases n==116<;>cases n==114<;>cases n==48<;>cases n==92<;>cases n==39<;>exact⟨_,rfl⟩
theorem char_any(s:List UInt8):∃y,Z7r s=some y/\(y.2=0->Tk s.length y.1):=by
 by_cases hs:s.length<3
 . unfold Z7r;rw[c0 (df (by omega)),c0 (df (by omega))];exact⟨_,rfl,fun h=>by cases h⟩
 obtain⟨a,b,c,l,rfl⟩:∃a b c l,s=a::b::c::l:=by
  match s,hs with
  |a::b::c::l,_=>exact⟨a,b,c,l,rfl⟩
  |[],h=>simp at h
  |[_],h=>simp at h
  |[_,_],h=>simp at h
 have hs3:sub (a::b::c::l) 0 3=some [a,b,c]:=by unfold sub;rw[if_pos (by simp;omega)];rfl
 have h3:decide ((3:Int)<=((a::b::c::l).length:Int))=true:=dt (by simp;omega);have i1:idx (a::b::c::l) 1=some b:=rfl;have i2:idx (a::b::c::l) 2=some c:=rfl;have no:∀{X:Option (U4×Int)},X=some (⟨0,[],0,⟨0,0⟩⟩,3)->∃y,X=some y/\(y.2=0->Tk (a::b::c::l).length y.1):=fun e=>⟨_,e,fun h=>by cases h⟩;have ye:∀{X:Option (U4×Int)}{u:List UInt8}{v:Int},X=some (⟨3,u,qJ .u32 v,⟨0,0⟩⟩,0)->1<=u.length->u.length<=(a::b::c::l).length->∃y,X=some y/\(y.2=0->Tk (a::b::c::l).length y.1):=fun e h1 h2=>⟨_,e,fun _=>⟨h1,h2,fun h=>(by cases h),Y3e _⟩⟩
 have low:∃y,(bif decide ((3:Int)<=((a::b::c::l).length:Int))then((idx (a::b::c::l) 2).bind fun u5=>bif (qA u5:Int)==39 then((idx (a::b::c::l) 1).bind fun u6=>bif decide (32<=(qA u6:Int))then((idx (a::b::c::l) 1).bind fun u7=>bif decide ((qA u7:Int)<=126)then((idx (a::b::c::l) 1).bind fun u8=>bif (qA u8:Int)!=39 then((idx (a::b::c::l) 1).bind fun u9=>bif (qA u9:Int)!=92 then((sub (a::b::c::l) 0 3).bind fun u10=>(idx (a::b::c::l) 1).bind fun u11=>some ((⟨3,u10,qJ .u32 (qA u11:Int),(⟨0,0⟩:Pos)⟩:U4),(0:Int)))else(some ((⟨0,([]:List UInt8),0,(⟨0,0⟩:Pos)⟩:U4),(3:Int))))else(some ((⟨0,([]:List UInt8),0,(⟨0,0⟩:Pos)⟩:U4),(3:Int))))else(some ((⟨0,([]:List UInt8),0,(⟨0,0⟩:Pos)⟩:U4),(3:Int))))else(some ((⟨0,([]:List UInt8),0,(⟨0,0⟩:Pos)⟩:U4),(3:Int))))else(some ((⟨0,([]:List UInt8),0,(⟨0,0⟩:Pos)⟩:U4),(3:Int))))else(some ((⟨0,([]:List UInt8),0,(⟨0,0⟩:Pos)⟩:U4),(3:Int))))=some y/\(y.2=0->Tk (a::b::c::l).length y.1):=by
  rw[h3,i1,i2,hs3]
  simp only[qV,cond_true]
  cases((c.toNat:Int)==39)<;>cases decide (32<=(b.toNat:Int))<;>cases decide ((b.toNat:Int)<=126)<;>cases((b.toNat:Int)!=39)<;>cases((b.toNat:Int)!=92)<;>first|exact no rfl|exact ye rfl (by simp) (by simp)
 unfold Z7r
 by_cases h4:(4:Int)<=((a::b::c::l).length:Int)
 . rw[c1 (dt h4)];refine exb i1 ?_;cases((b.toNat:Int)==92)with
   |false=>exact low
   |true=>
    rw[cond_true]
    obtain⟨d,q,rfl⟩:∃d q,l=d::q:=by
     cases l with
     |nil=>simp at h4
     |cons d q=>exact⟨d,q,rfl⟩
    refine exb (show idx (a::b::c::d::q) 3=some d from rfl) ?_;cases((d.toNat:Int)==39)with
    |false=>exact low
    |true=>
     rw[cond_true];refine exb i2 ?_;obtain⟨⟨v,k⟩,he⟩:=X5v (c.toNat:Int);refine exb he ?_;cases k with
     |false=>exact no rfl
     |true=>exact exb (show sub (a::b::c::d::q) 0 4=some [a,b,c,d] by unfold sub;rw[if_pos (by simp;omega)];rfl) (ye rfl (by simp) (by simp))
 . rw[c0 (df h4)];exact low
theorem X5p(s:List UInt8):∃m,Y1m s=some m/\m.length<=s.length:=by
 unfold Y1m
 generalize hm:([([60,60,61]:List UInt8),_,_,_,_,_,_,_,_,_,_,_,_,_,_,_,_,_,_,_,_,_,_,_,_,_,_,_,_,_,_,_,_,_,_,_,_,_,_,_,_,_,_,_,_]:List (List UInt8))=ms
 have hl:(ms.length:Int)=45:=by subst hm;rfl
 clear hm
 obtain⟨o,e,h⟩:=L5 (R:=List UInt8) (body:=fun(x1:Int)=>(bif decide (x1<45)then((idx ms x1).bind fun u1=>(N9 s u1).bind fun y1=>bif y1 then(some (Lp.ret u1))else(some (Lp.go (qJ .i64 (x1+1)))))else(some (Lp.brk x1)):Option (Lp (Int) ((List UInt8))))) (n:=NN) (s:=0) (fun x=>0<=x/\x<=45) (fun x=>45-x.toNat) (fun o=>(∃x,o= .brk x)\/∃m,o= .ret m/\m.length<=s.length) (by decide) (Q6f (by decide)) (by
  rintro x ⟨h0,h1⟩
  by_cases h:x<45
  . obtain⟨k,rfl⟩:=jR h0;rw[c1 (dt h),C1 (l:=ms) (k:=k) (by omega),qV,X2e,qV]
    by_cases hp:ms[k]'(by omega)<+:s
    . exact⟨_,c1 (dt hp),.inr ⟨_,rfl,hp.length_le⟩⟩
    . exact⟨_,c0 (df hp),⟨by rw[w64 (by omega)];omega,by rw[w64 (by omega)];omega⟩,by rw[w64 (by omega)];omega⟩
  . rw[c0 (df h)];exact⟨_,rfl,.inl ⟨_,rfl⟩⟩)
 refine exb e ?_
 rcases h with⟨x,rfl⟩|⟨m,rfl,h⟩
 . exact⟨_,rfl,kX _⟩
 . exact⟨_,rfl,h⟩
theorem X4z(s:List UInt8)(hs:s≠[])(hl:s.length<=100000):∃y,Z5q s=some y/\(y.2=0->Tk s.length y.1):=by
 obtain⟨c,l,rfl⟩:∃c l,s=c::l:=by
  cases s with
  |nil=>exact absurd rfl hs
  |cons c l=>exact⟨c,l,rfl⟩
 obtain⟨n,en,hn,hf⟩:=X5d (c::l) hl
 have hm:letB (c.toNat:Int)=true\/digB (c.toNat:Int)=true->1<=n:=fun h=>by
  rcases hf with hf|hf
  . exact hf
  . have:=hf c l rfl;unfold Y8y at this
    rcases h with h|h<;>rw[h]at this<;>simp at this
 have hlen:((c::l).take n).length=n:=by rw[qE];omega
 have i0:idx (c::l) 0=some c:=rfl;unfold Z5q;refine exb i0 (exb (Y8z _) ?_);cases hlet:letB (c.toNat:Int)with
 |true=>
  refine exb en (exb (Y0w hn) ?_)
  by_cases h31:(31:Int)<(n:Int)
  . rw[c1 (dt h31)];exact⟨_,rfl,fun h=>by cases h⟩
  . rw[c0 (df h31)];refine exb (Word_eq _) ?_;have h1:=hm (.inl hlet);cases hw:wordB ((c::l).take n)with
    |true=>exact⟨_,rfl,fun _=>⟨by dsimp only;omega,by dsimp only;omega,fun h=>(by cases h),Q4t⟩⟩
    |false=>exact⟨_,rfl,fun _=>⟨by dsimp only;omega,by dsimp only;omega,fun _ e=>by dsimp only at e;rw[e]at hw;revert hw;decide,Q4t⟩⟩
 |false=>
  rw[cond_false];refine exb i0 (exb (Y7t _) ?_);cases hdig:digB (c.toNat:Int)with
  |true=>
   obtain⟨⟨t,e⟩,hy,hp⟩:=X3u ((c::l).take n) (by omega);refine exb (show Z8s (c::l)=some (t,e)from(bnd en (bnd (Y0w hn) hy))) ⟨_,rfl,fun he=>?_⟩;obtain⟨e1,e2,e3⟩:=hp he;have h1:=hm (.inr hdig);exact⟨by dsimp only at e1⊢;rw[e1];omega,by dsimp only at e1⊢;rw[e1];omega,fun h=>absurd (e2.symm.trans h) (by decide),e3⟩
  |false=>
   rw[cond_false];refine exb i0 ?_;cases((c.toNat:Int)==39)with
   |true=>exact(char_any (c::l)).elim fun y h=>exb h.1 ⟨_,rfl,h.2⟩
   |false=>
    rw[cond_false];obtain⟨m,em,h⟩:=X5p (c::l);refine exb em ?_
    by_cases h0:m=[]
    . rw[c1 (dt h0)];exact⟨_,rfl,fun h=>by cases h⟩
    . rw[c0 (df h0)];exact⟨_,rfl,fun _=>⟨List.length_pos_iff.2 h0,h,fun h=>(by cases h),Q4t⟩⟩
def Pn(p:Pos):Prop:=p≠(⟨0,0⟩:Pos)
structure Y6g(p:Pos)(m:Nat):Prop where
 l:1<=p.Line/\p.Line<=m
 c:0<=p.Col/\p.Col<=m
theorem Y6g.pn{p:Pos}{m:Nat}(h:Y6g p m):Pn p:=fun e=>by have:=h.l;rw[e]at this;exact absurd this.1 (by decide)
theorem skip_any{s:List UInt8}{p:Pos}{m:Nat}(h:Y6g p m)(hm:m+s.length<=1000000){n:Nat}(hn:n<=s.length):∃y,O9 ⟨s,p⟩ (n:Int)=some y/\y.s=s.drop n/\Y6g y.pos (m+n):=by
 unfold O9;refine exb (Y0w hn) ?_;have hlen:(s.take n).length=n:=by rw[qE];omega
 generalize s.take n=u at hlen⊢
 have hsl:(A2 u).length=n:=by simp[A2,hlen]
 refine exb (B7 (by omega)) ?_
 obtain⟨o,e,q,x,rfl,h1,h2⟩:=L5 (R:=Unit) (body:=fun(x1,x2)=>(bif decide (x1<(qQ (A2 u):Int))then(jn (fun kk1=>(idx (A2 u) x1).bind fun u2=>bif u2==10 then(kk1 (⟨x2.s,(⟨qJ .i64 (x2.pos.Line+1),1⟩:Pos)⟩:P6))else(kk1 (⟨x2.s,(⟨x2.pos.Line,qJ .i64 (x2.pos.Col+1)⟩:Pos)⟩:P6))) (fun(x3:P6)=>some (Lp.go (qJ .i64 (x1+1),x3))))else(some (Lp.brk (x1,x2))):Option (Lp (Int×P6) (Unit)))) (n:=NN) (s:=((0:Int),(⟨s,p⟩:P6))) (fun z=>∃k:Nat,z.1=(k:Int)/\k<=n/\z.2.s=s/\Y6g z.2.pos (m+k)) (fun z=>n-z.1.toNat) (fun o=>∃q x,o= .brk (q,x)/\x.s=s/\Y6g x.pos (m+n)) ⟨0,rfl,kX _,rfl,h⟩ (Q6f (by dsimp only;omega)) (by
  rintro⟨i,⟨s',p'⟩⟩ ⟨k,h1,h2,h3,h4⟩
  dsimp only at h1 h2 h3 h4⊢
  subst h1 h3;rw[hsl]
  by_cases hk:k<n
  . have hl:=h4.l;have hc:=h4.c;rw[c1 (dt (by omega))]
    simp only[jn]
    rw[C1 (by rw[hsl];exact hk),qV];have w:qJ .i64 ((k:Int)+1)=((k+1:Nat):Int):=by rw[w64 (by omega)];omega
    cases((A2 u)[k]'(by rw[hsl];exact hk)==10)with
    |true=>exact⟨_,rfl,⟨k+1,w,hk,rfl,⟨by dsimp only;rw[w64 (by omega)];omega,by dsimp only;omega⟩⟩,by dsimp only;rw[w];omega⟩
    |false=>exact⟨_,rfl,⟨k+1,w,hk,rfl,⟨by dsimp only;omega,by dsimp only;rw[w64 (by omega)];omega⟩⟩,by dsimp only;rw[w];omega⟩
  . have:k=n:=by omega
    subst this;rw[c0 (dge _)];exact⟨_,rfl,_,_,rfl,rfl,h4⟩)
 refine exb e ?_
 dsimp only[Lp.thn]
 rw[h1];exact exb (Y4a hn) ⟨_,rfl,rfl,h2⟩
theorem X5q(s:List UInt8)(hl:s.length<=65536):∃y,Y4p s=some y/\((y.2.2=0/\y.1.length<=s.length/\(∀t∈y.1,Pn t.Pos/\Tk s.length t)/\Pn y.2.1)\/y.2.2≠0):=by
 unfold Y4p;rw[c0 (df (by omega))]
 obtain⟨o,ho,hp⟩:=L5 (R:=List U4×Pos×Int) (body:=fun(x1,x2)=>(bif !(decide (x2.s=([]:List UInt8)))then((Z5r x2.s).bind fun y1=>bif decide (y1<0)then(some (Lp.ret ([],x2.pos,(3:Int))))else(bif decide (0<y1)then((O9 x2 y1).bind fun y2=>some (Lp.go (x1,y2)))else((Z5q x2.s).bind fun y3=>bif y3.2 !=0 then(some (Lp.ret ([],x2.pos,y3.2)))else((L1 (qQ x1+qQ ([{y3.1 with Pos:=x2.pos}]:List U4))).bind fun _=>(O9 x2 (qQ y3.1.Text:Int)).bind fun y4=>some (Lp.go (x1++([{y3.1 with Pos:=x2.pos}]:List U4),y4))))))else(some (Lp.brk (x1,x2))):Option (Lp ((List U4)×P6) ((List U4)×Pos×Int)))) (n:=NN) (s:=([],(⟨s,(⟨1,1⟩:Pos)⟩:P6)))
  (fun x=>x.2.s.length<=s.length/\Y6g x.2.pos (1+(s.length-x.2.s.length))/\x.1.length+x.2.s.length<=s.length/\∀t∈x.1,Pn t.Pos/\Tk s.length t) (fun x=>x.2.s.length)
  (fun o=>(∃q x,o= .brk (q,x)/\q.length<=s.length/\(∀t∈q,Pn t.Pos/\Tk s.length t)/\Pn x.pos)\/∃p e,o= .ret ([],p,e)/\e≠0)
  ⟨qD _,by dsimp only;rw[Nat.sub_self];exact⟨by decide,by decide⟩,by simp,by simp⟩ (Q6f (by dsimp only;omega)) (by
   rintro⟨x1,⟨u,p⟩⟩ ⟨h1,h2,h3,h5⟩
   dsimp only at h1 h2 h3 h5⊢
   by_cases hu:u=[]
   . rw[c0 (by simpa using hu)];exact⟨_,rfl,.inl ⟨_,_,rfl,by omega,h5,h2.pn⟩⟩
   rw[c1 (by simpa using hu)];obtain⟨b,eb,hb⟩:=X6e u (by omega);rw[eb,qV]
   have sk:∀{k:Nat},1<=k->k<=u.length->∃y,O9 ⟨u,p⟩ (k:Int)=some y/\y.s.length<u.length/\y.s.length+k=u.length/\Y6g y.pos (1+(s.length-y.s.length)):=fun{k} h0 hk=>by
    obtain⟨y,ey,e1,e2⟩:=skip_any h2 (by omega) hk;have el:y.s.length=u.length-k:=by rw[e1,List.length_drop]
    exact⟨y,ey,by omega,by omega,by rw[show 1+(s.length-y.s.length)=1+(s.length-u.length)+k by omega];exact e2⟩
   by_cases hneg:b<0
   . rw[c1 (dt hneg)];exact⟨_,rfl,.inr ⟨_,_,rfl,by decide⟩⟩
   rw[c0 (df hneg)]
   by_cases hpos:0<b
   . rw[c1 (dt hpos)];obtain⟨n,rfl⟩:=jR (show 0<=b by omega);obtain⟨y,ey,e1,e2,e3⟩:=sk (k:=n) (by omega) (by omega);rw[ey];exact⟨_,rfl,⟨by dsimp only;omega,e3,by dsimp only;omega,h5⟩,e1⟩
   rw[c0 (df hpos)];obtain⟨⟨t,e⟩,hy,hT⟩:=X4z u hu (by omega);rw[hy,qV]
   by_cases he:e=0
   . subst he;have hT:Tk u.length t:=hT rfl;have hTb:=hT.b;obtain⟨y,ey,e1,e2,e3⟩:=sk hT.a hT.b;rw[c0 (by rfl),B7 (by simp;omega),qV,ey];have:=hT.a;refine⟨_,rfl,⟨by dsimp only;omega,e3,by dsimp only;simp;omega,fun z hz=>?_⟩,e1⟩
     rcases jQ.1 hz with hz|hz
     . exact h5 z hz
     . rw[kQ.1 hz];exact⟨h2.pn,hT.a,jH hT.b h1,hT.o,hT.u⟩
   . rw[c1 (by simpa using he)];exact⟨_,rfl,.inr ⟨_,_,rfl,he⟩⟩)
 refine exb ho ?_
 rcases hp with⟨q,x,rfl,h⟩|⟨p,e,rfl,he⟩
 . exact⟨_,rfl,.inl ⟨rfl,h⟩⟩
 . exact⟨_,rfl,.inr he⟩
theorem lz{t:U4}{l:List U4}:((qQ (t::l):Int)==0)=false:=beq_eq_false_iff_ne.2 (by simp only[qY];omega)
theorem X0e(t:U4)(l:List U4)(e:Pos)(d:Int):F7 ⟨t::l,e,d⟩=some t.Pos:=by
 unfold F7;rw[c0 lz]
 rfl
theorem mark_hit{t:U4}{l:List U4}{e:Pos}{d:Int}(h:t.Kind=4):B8 ⟨t::l,e,d⟩=some t.Text:=by
 unfold B8;rw[c0 lz];refine bnd (x:=t) rfl ?_;rw[c0 (by rw[h];rfl)]
 rfl
theorem X5l{t:U4}{l:List U4}{e:Pos}{d:Int}(h:t.Kind≠4):B8 ⟨t::l,e,d⟩=some []:=by
 unfold B8;rw[c0 lz];refine bnd (x:=t) rfl ?_;rw[c1 (by simpa using h)]
theorem is_hit{t:U4}{l:List U4}{e:Pos}{d:Int}{m:List UInt8}(h:t.Text=m)(hk:t.Kind=2\/t.Kind=4):U5 ⟨t::l,e,d⟩ m=some true:=by
 unfold U5 I4;rw[c1 (dt (by simp only[qY];omega))];refine bnd (x:=true) (bnd (x:=t) rfl ?_) rfl;rw[c1 (dt h)];refine bnd (x:=t) rfl ?_
 rcases hk with hk|hk
 . rw[c1 (by rw[hk];rfl)]
 . rw[c0 (by rw[hk];rfl)];refine bnd (x:=t) rfl ?_;rw[hk];rfl
theorem is_miss{t:U4}{l:List U4}{e:Pos}{d:Int}{m:List UInt8}(h:t.Text≠m):U5 ⟨t::l,e,d⟩ m=some false:=by
 unfold U5 I4;rw[c1 (dt (by simp only[qY];omega))];refine bnd (x:=false) (bnd (x:=t) rfl ?_) rfl;rw[c0 (df h)]
theorem Y3z{α:Type}(t:α)(l:List α):sub (t::l) 1 (qQ (t::l):Int)=some l:=by
 unfold sub;rw[if_pos (by simp only[qY];omega)]
 simp
theorem take_hit{t:U4}{l:List U4}{e:Pos}{d:Int}{m:List UInt8}(h:t.Text=m)(hk:t.Kind=2\/t.Kind=4):X7 ⟨t::l,e,d⟩ m=some (true,⟨l,e,d⟩):=by
 unfold X7;refine bnd (is_hit h hk) ?_;refine(c0 (by rfl)).trans ?_;exact bnd (Y3z t l) rfl
theorem kind_hit{t:U4}{l:List U4}{e:Pos}{d k:Int}(h:t.Kind=k):H0 ⟨t::l,e,d⟩ k=some (.ok (t,⟨l,e,d⟩)):=by
 unfold H0 jn
 dsimp only
 rw[c0 lz];refine bnd (x:=t) rfl ?_;rw[c0 (by rw[h];exact bne_self_eq_false k)];refine bnd (x:=t) rfl ?_;exact bnd (Y3z t l) rfl
theorem X5x{l:List U4}{e:Pos}{d:Int}(h0:0<=d)(h:d<200):C7 ⟨l,e,d⟩=some (.ok ⟨l,e,d+1⟩):=by
 unfold C7 jn
 dsimp only
 rw[c0 (beq_eq_false_iff_ne.2 (by omega)),w64 (by omega)]
def ps(b:UInt8)(c:Nat):Nat->List U4
 |0=>[]
 |a+1=>⟨4,[b],0,⟨1,(c:Int)⟩⟩::ps b (c+1) a
def wE:Y8->Nat
 |⟨a,b,c,d,e,f,ks⟩=>1+f.Stars.toNat+(ks.attach.map fun k=>wE k.1).sum
termination_by x=>SizeOf.sizeOf x
decreasing_by
 have:=List.sizeOf_lt_of_mem k.2
 simp only[Y8.mk.sizeOf_spec]
 omega
def sm{α:Type}(w:α->Nat)(l:List α):Nat:=(l.map w).sum
theorem X1k(x:Y8):wE x=1+x.Type_.Stars.toNat+sm wE x.Kids:=by
 obtain⟨a,b,c,d,e,f,ks⟩:=x;rw[wE]
 simp[sm]
def wV(v:M7):Nat:=1+v.Type_.Stars.toNat+v.Dims.length+sm wE v.Init
def wS:E5->Nat
 |⟨a,b,c,d,e,f,bs,es,cs⟩=>1+sm wE c+sm wE d+sm wE e+sm wV f+(bs.attach.map fun k=>wS k.1).sum+(es.attach.map fun k=>wS k.1).sum+(cs.attach.map fun c=>1+(c.1.Body.attach.map fun k=>wS k.1).sum).sum
termination_by x=>SizeOf.sizeOf x
decreasing_by
 . have:=List.sizeOf_lt_of_mem k.2
   simp only[E5.mk.sizeOf_spec]
   omega
 . have:=List.sizeOf_lt_of_mem k.2
   simp only[E5.mk.sizeOf_spec]
   omega
 . have h1:=List.sizeOf_lt_of_mem k.2
   have h2:=List.sizeOf_lt_of_mem c.2
   obtain⟨⟨c1,c2,c3,c4⟩,hc⟩:=c
   simp only[X4d.mk.sizeOf_spec]at h2
   simp only[E5.mk.sizeOf_spec]
   dsimp only at h1
   omega
def wC(c:Q1e):Nat:=1+sm wS c.Body
theorem Y2t(x:E5):wS x=1+sm wE x.A+sm wE x.B+sm wE x.C+sm wV x.Var+sm wS x.Body+sm wS x.Else+sm wC x.Cases:=by
 obtain⟨a,b,c,d,e,f,bs,es,cs⟩:=x;rw[wS]
 simp[sm]
 rfl
def wT(s:Q3k):Nat:=1+sm wV s.Fields
def wF(f:Q1d):Nat:=1+f.Ret.Stars.toNat+sm wV f.Params+sm wS f.Body
def wP(p:D4):Nat:=sm wT p.Structs+sm wV p.Globals+sm wF p.Funcs
theorem Z0f{α:Type}(w:α->Nat)(x:α)(l:List α):sm w (x::l)=w x+sm w l:=by simp[sm]
theorem Q2w{α:Type}(w:α->Nat)(a b:List α):sm w (a++b)=sm w a+sm w b:=by simp[sm]
theorem Q3l{α:Type}{w:α->Nat}(hw:∀x,1<=w x):∀l:List α,l.length<=sm w l
 |[]=>kX _
 |x::l=>by rw[Z0f,qY];have:=Q3l hw l;have:=hw x;omega
theorem Q4s(x:Y8):1<=wE x:=by rw[X1k];omega
theorem Y0q(x:M7):1<=wV x:=by unfold wV;omega
theorem Y0r(x:E5):1<=wS x:=by rw[Y2t];omega
theorem wC_pos(x:Q1e):1<=wC x:=by unfold wC;omega
theorem X3d(x:Q3k):1<=wT x:=by unfold wT;omega
theorem X3e(x:Q1d):1<=wF x:=by unfold wF;omega
def OkT(t:M6):Prop:=t.Word.length<=70000/\t.Name.length<=70000/\t.Stars<=1000000
def Z5d(k:Int):Nat:=if k=3\/k=9\/k=10\/k=11 then 1 else if k=4\/k=5\/k=8 then 2 else if k=6 then 3 else 0
def Ex(k:Int)(p:Pos)(o n:List UInt8)(m:Nat):Prop:=Pn p/\(k=7->n=outW->1<=m)/\(k=5->o≠[])
theorem Ex.of{k:Int}{p:Pos}{o n:List UInt8}{m:Nat}(hp:Pn p)(h7:k≠7)(h5:k≠5):Ex k p o n m:=⟨hp,fun h=>absurd h h7,fun h=>absurd h h5⟩
def Sa(k:Int)(a v:Nat):Prop:=((k=1\/k=3\/k=4\/k=5\/k=7)->1<=a)/\(k=2->1<=v)
inductive OkE:Y8->Prop
 |mk {x:Y8} (kids:∀k∈x.Kids,OkE k) (name:x.Name.length<=70000) (op:x.Op.length<=70000) (ty:OkT x.Type_) (ar:Z5d x.Kind<=x.Kids.length) (ex:Ex x.Kind x.Pos x.Op x.Name x.Kids.length) (nu:U32 x.Num):OkE x
structure OkV(v:M7):Prop where
 name:v.Name.length<=70000
 ty:OkT v.Type_
 init:∀x∈v.Init,OkE x
 pos:Pn v.Pos
 br:v.Brace=false->v.Init.length<=1
inductive OkS:E5->Prop
 |mk {x:E5} (a:∀y∈x.A,OkE y) (b:∀y∈x.B,OkE y) (c:∀y∈x.C,OkE y) (v:∀y∈x.Var,OkV y) (s:∀y∈x.Body,OkS y) (e:∀y∈x.Else,OkS y) (d:∀c∈x.Cases,∀y∈c.Body,OkS y) (sp:Pn x.Pos) (sa:Sa x.Kind x.A.length x.Var.length) (cp:∀c∈x.Cases,Pn c.Pos):OkS x
structure OkF(f:Q1d):Prop where
 name:f.Name.length<=70000
 ty:OkT f.Ret
 ps:∀v∈f.Params,OkV v
 body:∀x∈f.Body,OkS x
 pos:Pn f.Pos
structure OkP(p:D4):Prop where
 s:∀s∈p.Structs,s.Name.length<=70000/\(∀v∈s.Fields,OkV v)/\Pn s.Pos
 g:∀v∈p.Globals,OkV v
 f:∀f∈p.Funcs,OkF f
structure Af(r r':Z0)(k:Nat):Prop where
 len:r'.l.length+k<=r.l.length
 tk:∀t∈r'.l,t∈r.l
 d:r'.depth=r.depth
 en:r'.end_=r.end_
theorem Af.refl(r:Z0):Af r r 0:=⟨qD _,fun _ h=>h,rfl,rfl⟩
theorem Af.trans{a b c:Z0}{j k:Nat}(h:Af a b j)(g:Af b c k):Af a c (j+k):=⟨by have:=h.len;have:=g.len;omega,fun t ht=>h.tk t (g.tk t ht),g.d.trans h.d,g.en.trans h.en⟩
theorem Af.mono{a b:Z0}{j k:Nat}(h:Af a b j)(hk:k<=j):Af a b k:=⟨by have:=h.len;omega,h.tk,h.d,h.en⟩
structure Rd(r:Z0):Prop where
 tx:∀t∈r.l,t.Text.length<=70000
 len:r.l.length<=5000
 d:0<=r.depth/\r.depth<=200
 tp:∀t∈r.l,Pn t.Pos
 te:Pn r.end_
 tn:∀t∈r.l,t.Kind=1->t.Text≠outW
 tu:∀t∈r.l,U32 t.Num
theorem Rd.after{r r':Z0}{k:Nat}(h:Rd r)(g:Af r r' k):Rd r':=⟨fun t ht=>h.tx t (g.tk t ht),by have:=g.len;have:=h.len;omega,by rw[g.d];exact h.d,fun t ht=>h.tp t (g.tk t ht),by rw[g.en];exact h.te,fun t ht=>h.tn t (g.tk t ht),fun t ht=>h.tu t (g.tk t ht)⟩
def Ok{E A:Type}(y:Option (Except E A))(p:A->Prop):Prop:=∃z,y=some z/\match z with
 | .error _=>True
 | .ok x=>p x
theorem Ok.ok{E A:Type}{x:A}{p:A->Prop}(h:p x):Ok (some (qX (ε:=E) x)) p:=⟨_,rfl,h⟩
theorem Ok.err{E A:Type}{e:E}{p:A->Prop}:Ok (some (qK (α:=A) e)) p:=⟨_,rfl,trivial⟩
theorem Ok.mono{E A:Type}{y:Option (Except E A)}{p q:A->Prop}(h:Ok y p)(hpq:∀x,p x->q x):Ok y q:=by
 obtain⟨z,e,hz⟩:=h;refine⟨z,e,?_⟩;cases z with
 |error _=>trivial
 |ok x=>exact hpq x hz
theorem Ok.bind{E E' A B:Type}{y:Option (Except E A)}{p:A->Prop}{f:A->Option (Except E' B)}{g:E->E'}{q:B->Prop}(h:Ok y p)(hf:∀x,p x->Ok (f x) q):Ok (y.bind fun z=>exC z (fun z=>f z) (fun e=>some (qK (g e)))) q:=by
 obtain⟨z,e,hz⟩:=h;rw[e,qV];cases z with
 |error e=>exact⟨_,rfl,trivial⟩
 |ok x=>exact hf x hz
theorem Ok.step{E A B:Type}{m:Option B}{x:B}{f:B->Option (Except E A)}{q:A->Prop}(h:m=some x)(k:Ok (f x) q):Ok (m.bind f) q:=by subst h;exact k
theorem Z4j(r:Z0)(m:List UInt8):∃b,U5 r m=some b/\(b=true->∃t l,r.l=t::l/\t.Text=m/\(t.Kind=2\/t.Kind=4)):=by
 obtain⟨l,e,d⟩:=r;cases l with
 |nil=>exact⟨false,rfl,fun h=>by cases h⟩
 |cons t l=>
  by_cases h:t.Text=m
  . by_cases hk:t.Kind=2\/t.Kind=4
    . exact⟨true,is_hit h hk,fun _=>⟨t,l,rfl,h,hk⟩⟩
    . refine⟨false,?_,fun h=>by cases h⟩;unfold U5 I4;rw[c1 (dt (by simp only[qY];omega))];refine bnd (x:=false) (bnd (x:=t) rfl ?_) rfl;rw[c1 (dt h)];refine bnd (x:=t) rfl ?_;rw[c0 (by simp;exact fun h=>hk (.inl h))];refine bnd (x:=t) rfl ?_
      congr 1
      simp
      exact fun h=>hk (.inr h)
  . exact⟨false,is_miss h,fun h=>by cases h⟩
theorem C0(r:Z0)(m:List UInt8):∃b r',X7 r m=some (b,r')/\Af r r' (cond b 1 0):=by
 obtain⟨b,e,hb⟩:=Z4j r m;cases b with
 |true=>
  obtain⟨t,l,hl,ht,hk⟩:=hb rfl;obtain⟨rl,re,rd⟩:=r
  dsimp only at hl
  subst hl;exact⟨true,_,take_hit ht hk,by simp,fun x hx=>List.mem_cons_of_mem _ hx,rfl,rfl⟩
 |false=>
  refine⟨false,r,?_,Af.refl r⟩;unfold X7;exact bnd e rfl
theorem pos_any(r:Z0):∃p,F7 r=some p:=by
 obtain⟨l,e,d⟩:=r;cases l with
 |nil=>exact⟨e,rfl⟩
 |cons t l=>exact⟨_,X0e t l e d⟩
theorem Y1g{r:Z0}(hr:Rd r):∃p,F7 r=some p/\Pn p:=by
 obtain⟨l,e,d⟩:=r;cases l with
 |nil=>exact⟨e,rfl,hr.te⟩
 |cons t l=>exact⟨_,X0e t l e d,hr.tp t (by simp)⟩
theorem Y1x(r:Z0)(k:Int):∃e,W9 r k=some (.error e):=by
 obtain⟨p,hp⟩:=pos_any r;exact⟨_,bnd hp rfl⟩
theorem N0(r:Z0)(m:List UInt8):Ok (X3 r m) (fun r'=>Af r r' 1):=by
 obtain⟨b,r',e,h⟩:=C0 r m;unfold X3;refine Ok.step e ?_;cases b with
 |true=>exact Ok.ok h
 |false=>
  obtain⟨x,hx⟩:=Y1x r' 3;exact Ok.step hx Ok.err
theorem Y4r(r:Z0)(k:Int):Ok (H0 r k) (fun x=>(x.1∈r.l/\x.1.Kind=k)/\Af r x.2 1):=by
 obtain⟨l,e,d⟩:=r;cases l with
 |nil=>
  unfold H0 jn
  dsimp only
  obtain⟨x,hx⟩:=Y1x ⟨[],e,d⟩ 3;rw[c1 (show((qQ ([]:List U4):Int)==0)=true from rfl)];exact Ok.step hx Ok.err
 |cons t l=>
  by_cases h:t.Kind=k
  . rw[kind_hit h];exact Ok.ok ⟨⟨by simp,h⟩,by simp,fun x hx=>List.mem_cons_of_mem _ hx,rfl,rfl⟩
  . unfold H0 jn
    dsimp only
    rw[c0 lz];refine Ok.step (x:=t) rfl ?_;rw[c1 (by simpa using h)];obtain⟨x,hx⟩:=Y1x ⟨t::l,e,d⟩ 3;exact Ok.step hx Ok.err
theorem Z4t{r:Z0}(hr:Rd r):Ok (G7 r) (fun x=>x.1.length<=70000/\Af r x.2 1/\x.1≠outW):=by
 unfold G7;exact(Y4r r 1).bind fun x hx=>Ok.ok ⟨hr.tx _ hx.1.1,hx.2,hr.tn _ hx.1.1 hx.1.2⟩
theorem Z9b{r:Z0}(hr:Rd r):Ok (C7 r) (fun r'=>r'.l=r.l/\r'.depth=r.depth+1/\r.depth<200/\r'.end_=r.end_):=by
 obtain⟨l,e,d⟩:=r;have hd:=hr.d
 dsimp only at hd
 by_cases h:d=200
 . subst h;unfold C7 jn
   dsimp only
   rw[c1 (show((200:Int)==200)=true from rfl)];obtain⟨x,hx⟩:=Y1x ⟨l,e,200⟩ 2;exact Ok.step hx Ok.err
 . rw[X5x hd.1 (by omega)];exact Ok.ok ⟨rfl,rfl,by dsimp only;omega,rfl⟩
theorem Z7q{r:Z0}(hr:Rd r):∃m,B8 r=some m/\m.length<=70000/\(m≠[]->r.l≠[]):=by
 obtain⟨l,e,d⟩:=r;cases l with
 |nil=>exact⟨[],rfl,by simp,fun h=>absurd rfl h⟩
 |cons t l=>
  by_cases h:t.Kind=4
  . exact⟨_,mark_hit h,hr.tx t (by simp),fun _=>by simp⟩
  . exact⟨_,X5l h,by simp,fun _=>by simp⟩
theorem Q9h{r:Z0}(hr:Rd r)(k:Int)(hl:r.l≠[]):∃p o r',J9 r k=some (⟨k,p,o,[],0,⟨[],[],0⟩,[]⟩,r')/\o.length<=70000/\Af r r' 1/\Pn p/\B8 r=some o:=by
 obtain⟨l,e,d⟩:=r;cases l with
 |nil=>exact absurd rfl hl
 |cons t l=>
  obtain⟨m,hm,hml,_⟩:=Z7q hr;refine⟨t.Pos,m,⟨l,e,d⟩,?_,hml,⟨by simp,fun x hx=>List.mem_cons_of_mem _ hx,rfl,rfl⟩,hr.tp t (by simp),hm⟩;unfold J9;exact bnd (X0e t l e d) (bnd hm (bnd (Y3z t l) rfl))
def Rn{Z:Type}(y:Option Z)(P:Z->Prop):Prop:=∃z,y=some z/\P z
theorem Rn.ok{Z:Type}{z:Z}{P:Z->Prop}(h:P z):Rn (some z) P:=⟨z,rfl,h⟩
theorem Rn.step{Z B:Type}{m:Option B}{x:B}{f:B->Option Z}{P:Z->Prop}(h:m=some x)(k:Rn (f x) P):Rn (m.bind f) P:=by subst h;exact k
theorem Rn.bind{E A S R:Type}{y:Option (Except E A)}{p:A->Prop}{f:A->Option (Lp S R)}{g:E->R}{P:Lp S R->Prop}(h:Ok y p)(hf:∀x,p x->Rn (f x) P)(hg:∀e,P (.ret (g e))):Rn (y.bind fun z=>exC z (fun z=>f z) (fun e=>some (Lp.ret (g e)))) P:=by
 obtain⟨z,ez,hz⟩:=h;rw[ez,qV];cases z with
 |error x=>exact⟨_,rfl,hg x⟩
 |ok x=>exact hf x hz
def NxR{S R E A:Type}(I:S->Prop)(μ:S->Nat)(s:S)(f:Lp S R->Option (Except E A))(q:A->Prop):Lp S R->Prop
 | .go s'=>I s'/\μ s'<μ s
 | .brk s'=>Ok (f (.brk s')) q
 | .ret r=>Ok (f (.ret r)) q
theorem Ok.loop{S R E A:Type}{body:S->Option (Lp S R)}{f:Lp S R->Option (Except E A)}{q:A->Prop}{s:S}(I:S->Prop)(μ:S->Nat)(hI:I s)(hn:μ s<1000000)(hs:∀s,I s->Rn (body s) (NxR I μ s f q)):Ok ((X5 body NN s).bind f) q:=by
 obtain⟨o,ho,hp⟩:=L5 I μ (fun o=>Ok (f o) q) hI (Q6f (by omega)) (fun s h=>by
  obtain⟨z,e,hz⟩:=hs s h;exact⟨z,e,by cases z<;>exact hz⟩)
 exact Ok.step ho hp
theorem Y8r(r:Z0):∃b,Q2r r=some b/\(b=true->r.l≠[]):=by
 have ne:∀{m:List UInt8}{b:Bool},(b=true->∃t l,r.l=t::l/\t.Text=m/\(t.Kind=2\/t.Kind=4))->b=true->r.l≠[]:=by
  intro m b h hb;obtain⟨t,l,e,_⟩:=h hb;rw[e];simp
 unfold Q2r;obtain⟨b1,e1,h1⟩:=Z4j r [105,110,116];rw[e1,qV];cases b1 with
 |true=>exact⟨true,rfl,ne h1⟩
 |false=>
  obtain⟨b2,e2,h2⟩:=Z4j r [99,104,97,114];refine(c0 (by rfl)).symm▸?_;rw[e2,qV];cases b2 with
  |true=>exact⟨true,rfl,ne h2⟩
  |false=>
   obtain⟨b3,e3,h3⟩:=Z4j r [118,111,105,100];refine(c0 (by rfl)).symm▸?_;rw[e3,qV];cases b3 with
   |true=>exact⟨true,rfl,ne h3⟩
   |false=>
    obtain⟨b4,e4,h4⟩:=Z4j r [115,116,114,117,99,116];exact⟨b4,bnd e4 rfl,ne h4⟩
theorem Z2x{r:Z0}(hr:Rd r):Ok (F3 r) (fun x=>OkT x.1/\Af r x.2 (1+x.1.Stars.toNat)):=by
 obtain⟨l,e,d⟩:=r;unfold F3
 dsimp only[jn]
 obtain⟨b,eb,hb⟩:=Y8r ⟨l,e,d⟩;rw[eb,qV];cases b with
 |false=>
  obtain⟨x,hx⟩:=Y1x ⟨l,e,d⟩ 3;exact Ok.step hx Ok.err
 |true=>
  cases l with
  |nil=>exact absurd rfl (hb rfl)
  |cons t l=>
   have hl:=hr.len
   simp only[qY]at hl
   have ht:=hr.tx t (by simp);have h1:Af ⟨t::l,e,d⟩ ⟨l,e,d⟩ 1:=⟨by simp,fun x hx=>List.mem_cons_of_mem _ hx,rfl,rfl⟩
   have key:∀(x1:M6)(x2:Z0),x1.Word.length<=70000->x1.Name.length<=70000->x1.Stars=0->Af ⟨t::l,e,d⟩ x2 1->
    Ok ((X5 (fun(x3,x4)=>((X7 x4 ([42]:List UInt8)).bind fun y4=>bif y4.1 then(some (Lp.go ({x3 with Stars:=qJ .i64 (x3.Stars+1)},y4.2)))else(some (Lp.brk (x3,y4.2))):Option (Lp (M6×Z0) (Unit)))) NN (x1,x2)).bind fun o=>o.thn (fun(x3,x4)=>some (qX (ε:=Y3×Z0) (x3,x4))) (fun _=>none)) (fun x=>OkT x.1/\Af ⟨t::l,e,d⟩ x.2 (1+x.1.Stars.toNat)):=by
    intro x1 x2 hw hn hs ha;refine Ok.loop (fun s=>s.1.Word.length<=70000/\s.1.Name.length<=70000/\0<=s.1.Stars/\Af ⟨t::l,e,d⟩ s.2 (1+s.1.Stars.toNat)) (fun s=>s.2.l.length) ⟨hw,hn,by dsimp only;omega,by dsimp only;rw[hs];exact ha⟩ (by have:=ha.len;simp only[qY]at this;dsimp only;omega) ?_;rintro⟨x3,x4⟩ ⟨i1,i2,i3,i4⟩
    dsimp only at i1 i2 i3 i4⊢
    have i4l:=i4.len
    simp only[qY]at i4l
    obtain⟨b,r',eb,hb⟩:=C0 x4 [42];refine Rn.step eb ?_;cases b with
    |true=>
     have hbl:=hb.len
     dsimp only[cond_true]at hbl
     refine Rn.ok ⟨⟨i1,i2,?_,?_⟩,by dsimp only;omega⟩
     . dsimp only
       rw[w64 (by omega)];omega
     . dsimp only
       rw[w64 (by omega)];refine(i4.trans hb).mono ?_
       dsimp only[cond_true]
       omega
    |false=>
     refine Rn.ok (Ok.ok ⟨⟨i1,i2,by dsimp only;omega⟩,(i4.trans hb).mono (by dsimp only;omega)⟩)
   refine(c0 (by rfl)).symm▸?_;refine Ok.step (x:=t) rfl ?_;refine Ok.step (Y3z t l) ?_
   by_cases hst:t.Text=[115,116,114,117,99,116]
   . rw[c1 (dt hst)];refine(Z4t (hr.after h1)).bind fun x hx=>key _ _ ht hx.1 rfl ((h1.trans hx.2.1).mono (by omega))
   . rw[c0 (df hst)];exact key _ _ ht (by simp) rfl h1
theorem X2k{r:Z0}(hr:Rd r):Ok (Q4o r) (fun x=>Af r x.2 x.1.length):=by
 unfold Q4o;refine Ok.loop (fun s=>Af r s.2 s.1.length) (fun s=>s.2.l.length) ((Af.refl r).mono (by simp)) (by have:=hr.len;dsimp only;omega) ?_;rintro⟨x1,x2⟩ h
 dsimp only at h⊢
 have hl:=hr.len;have h2:=h.len;obtain⟨b,r1,eb,hb⟩:=C0 x2 [91];refine Rn.step eb ?_;cases b with
 |false=>exact Rn.ok (Ok.ok ((h.trans hb).mono (by dsimp only;omega)))
 |true=>
  dsimp only[cond_true]at hb⊢
  refine Rn.bind (Y4r r1 3) (fun x hx=>?_) (fun e=>Ok.err);refine Rn.step (B7 (by simp;omega)) ?_;refine Rn.bind (N0 x.2 [93]) (fun y hy=>?_) (fun e=>Ok.err);have ha:=((h.trans hb).trans hx.2).trans hy;have:=hb.len;have:=hx.2.len;have:=hy.len;refine Rn.ok ⟨ha.mono (by simp),by dsimp only;omega⟩
def PE(r:Z0)(x:Y8×Z0):Prop:=OkE x.1/\Af r x.2 (wE x.1)
def PL(r:Z0)(k:Nat)(x:List Y8×Z0):Prop:=(∀y∈x.1,OkE y)/\Af r x.2 (sm wE x.1+k)
def PL1(r:Z0)(k:Nat)(x:List Y8×Z0):Prop:=PL r k x/\1<=x.1.length
structure S1(n:Nat):Prop where
 bracketed:∀r,Rd r->10*r.l.length+1<=n->Ok ((Q6t n).J0 r) (PL1 r 2)
 handed:∀r,Rd r->10*r.l.length+1<=n->Ok ((Q6t n).E7 r) (PL r 2)
 prime:∀r,Rd r->10*r.l.length+1<=n->Ok ((Q6t n).H6 r) (PE r)
 post:∀r,Rd r->10*r.l.length+2<=n->Ok ((Q6t n).A9 r) (PE r)
 unary:∀r,Rd r->10*r.l.length+3<=n->Ok ((Q6t n).E0 r) (PE r)
 binary:∀r k,Rd r->10*r.l.length+4<=n->Ok ((Q6t n).E8 r k) (PE r)
 cond:∀r,Rd r->10*r.l.length+5<=n->Ok ((Q6t n).N8 r) (PE r)
 assign:∀r,Rd r->10*r.l.length+6<=n->Ok ((Q6t n).V1 r) (PE r)
theorem Rd.down{r r':Z0}(hr:Rd r)(h:r'.l=r.l/\r'.depth=r.depth+1/\r.depth<200/\r'.end_=r.end_):Rd r':=⟨by rw[h.1];exact hr.tx,by rw[h.1];exact hr.len,by have:=hr.d;omega,by rw[h.1];exact hr.tp,by rw[h.2.2.2];exact hr.te,by rw[h.1];exact hr.tn,by rw[h.1];exact hr.tu⟩
theorem Af.up{r r' s:Z0}{k:Nat}(hr:Rd r)(h:r'.l=r.l/\r'.depth=r.depth+1/\r.depth<200/\r'.end_=r.end_)(g:Af r' s k):Af r {s with depth:=qJ .i64 (s.depth-1)} k:=by
 have hd:=hr.d;have gd:=g.d;refine⟨by have:=g.len;rw[h.1]at this;exact this,fun t ht=>by have:=g.tk t ht;rw[h.1]at this;exact this,?_,g.en.trans h.2.2.2⟩
 dsimp only
 rw[w64 (by omega)];omega
theorem okT0:OkT ⟨[],[],0⟩:=⟨by simp,by simp,by decide⟩
theorem Y6j{k:Int}{p:Pos}{o n:List UInt8}{m:Int}{ks:List Y8}(hk:∀y∈ks,OkE y)(ho:o.length<=70000)(hn:n.length<=70000)(ha:Z5d k<=ks.length)(hx:Ex k p o n ks.length)(hm:U32 m:=by exact Q4t):OkE ⟨k,p,o,n,m,⟨[],[],0⟩,ks⟩:= .mk hk hn ho okT0 ha hx hm
theorem wEk{k:Int}{p:Pos}{o n:List UInt8}{m:Int}{ks:List Y8}:wE ⟨k,p,o,n,m,⟨[],[],0⟩,ks⟩=1+sm wE ks:=by rw[X1k];rfl
theorem sm1(x:Y8):sm wE [x]=wE x:=by simp[sm]
theorem sm2(x y:Y8):sm wE [x,y]=wE x+wE y:=by simp[sm]
theorem sm3(x y z:Y8):sm wE [x,y,z]=wE x+wE y+wE z:=by simp[sm];omega
theorem X2v{n:Nat}(h:S1 n):∀r,Rd r->10*r.l.length+1<=n+1->Ok ((Q6t (n+1)).J0 r) (PL1 r 2):=by
 intro r hr hn;show Ok (Q0a (Q6t n) r) _;unfold Q0a;refine(N0 r _).bind fun y1 a1=>?_;have:=a1.len;refine(h.assign y1 (hr.after a1) (by omega)).bind fun y2 a2=>?_;refine(N0 y2.2 _).bind fun y3 a3=>?_;exact Ok.ok ⟨⟨by simpa using a2.1,((a1.trans a2.2).trans a3).mono (by dsimp only;rw[sm1];omega)⟩,qD 1⟩
theorem handed_s{n:Nat}(h:S1 n):∀r,Rd r->10*r.l.length+1<=n+1->Ok ((Q6t (n+1)).E7 r) (PL r 2):=by
 intro r hr hn;show Ok (Q2a (Q6t n) r) _;unfold Q2a;refine(N0 r _).bind fun y1 a1=>?_;have l1:=a1.len;have lr:=hr.len;obtain⟨b,y2,e2,a2⟩:=C0 y1 [41];refine Ok.step e2 ?_;cases b with
 |true=>exact Ok.ok ⟨by simp,(a1.trans a2).mono (by simp[sm])⟩
 |false=>
  have a12:=(a1.trans a2).mono (k:=1) (by simp);have l2:=a12.len;refine(h.assign y2 (hr.after a12) (by omega)).bind fun y3 a3=>?_;have a13:=a12.trans a3.2;refine Ok.loop (fun s=>(∀y∈s.1,OkE y)/\Af r s.2 (1+sm wE s.1)) (fun s=>s.2.l.length) ⟨by simpa using a3.1,by dsimp only;rw[sm1];exact a13⟩ (by have:=a13.len;dsimp only;omega) ?_;rintro⟨x1,x2⟩ ⟨i1,i2⟩
  dsimp only at i1 i2⊢
  have li:=i2.len;have hx:=Q3l Q4s x1;obtain⟨b,y4,e4,a4⟩:=C0 x2 [44];refine Rn.step e4 ?_;cases b with
  |false=>
   refine Rn.ok ?_;refine(N0 y4 _).bind fun y6 a6=>Ok.ok ⟨i1,((i2.trans a4).trans a6).mono (by simp;omega)⟩
  |true=>
   have a24:=i2.trans a4;have l4:=a4.len
   dsimp only[cond_true]at l4 a24
   refine Rn.bind (h.assign y4 (hr.after a24) (by omega)) (fun y5 a5=>?_) (fun e=>Ok.err);refine Rn.step (B7 (by simp;omega)) ?_;have l5:=a5.2.len;refine Rn.ok ⟨⟨?_,(a24.trans a5.2).mono (by dsimp only;rw[Q2w,sm1];omega)⟩,by dsimp only;omega⟩;intro y hy
   rcases jQ.1 hy with hy|hy
   . exact i1 y hy
   . have:y=y5.1:=by simpa using hy
     rw[this];exact a5.1
theorem assign_s{n:Nat}(h:S1 n):∀r,Rd r->10*r.l.length+6<=n+1->Ok ((Q6t (n+1)).V1 r) (PE r):=by
 intro r hr hn;show Ok (Q2c (Q6t n) r) _;unfold Q2c;refine(Z9b hr).bind fun y1 d1=>?_;have hr1:=hr.down d1;refine Ok.bind (g:=fun e:Y3×Z0=>(e.1,{e.2 with depth:=qJ .i64 (e.2.depth-1)})) (h.cond y1 hr1 (by rw[d1.1];omega)) fun y2 a2=>?_;have hr2:=hr1.after a2.2;obtain⟨m,em,hm,hne⟩:=Z7q hr2;refine Ok.step em ?_
 obtain⟨b,eb,hb⟩:∃b,Z1g m=some b/\(b=true->m≠[]):=by
  by_cases h0:m=[]
  . subst h0;exact⟨false,rfl,fun h=>by cases h⟩
  . have:∃b,Z1g m=some b:=by
     unfold Z1g
     dsimp only[jn]
     have key:∀b:Bool,∃c,(bif b then some true else some false)=some c:=fun b=>by cases b<;>exact⟨_,rfl⟩
     iterate 10 (first|exact key _|(refine(Bool.rec (motive:=fun c=>∃d,(bif c then _ else _)=some d) ?_ ?_ _)<;>dsimp only[cond_true,cond_false]))
     all_goals exact key _
    obtain⟨b,hb⟩:=this;exact⟨b,hb,fun _=>h0⟩
 refine Ok.step eb ?_;cases b with
 |false=>exact Ok.ok ⟨a2.1,Af.up hr d1 a2.2⟩
 |true=>
  obtain⟨p,o,y5,e5,ho,a5,pp,pm⟩:=Q9h hr2 5 (hne (hb rfl));refine Ok.step e5 ?_;have l2:=a2.2.len;have l5:=a5.len;rw[d1.1]at l2;refine Ok.bind (g:=fun e:Y3×Z0=>(e.1,{e.2 with depth:=qJ .i64 (e.2.depth-1)})) (h.assign y5 (hr2.after a5) (by omega)) fun y6 a6=>?_;refine Ok.ok ⟨Y6j (by simp[a2.1,a6.1]) ho (by simp) (show Z5d 5<=2 by decide) (show Ex 5 p o [] 2 from⟨pp,fun e=>absurd e (by decide),fun _ e0=>(hb rfl) (Option.some.inj (em.symm.trans (pm.trans (by rw[e0]))))⟩),?_⟩;have:=Af.up hr d1 ((a2.2.trans a5).trans a6.2);refine this.mono ?_
  dsimp only
  rw[wEk,sm2];omega
theorem rank_any(m:List UInt8):∃k,Z5n m=some k/\(k≠0->m≠[]):=by
 by_cases h:m=[]
 . subst h;exact⟨0,rfl,fun h=>absurd rfl h⟩
 . have:∃k,Z5n m=some k:=by
    unfold Z5n
    dsimp only[jn]
    cases decide (m=([124,124]:List UInt8))
    case true=>exact⟨_,rfl⟩
    cases decide (m=([38,38]:List UInt8))
    case true=>exact⟨_,rfl⟩
    cases decide (m=([124]:List UInt8))
    case true=>exact⟨_,rfl⟩
    cases decide (m=([94]:List UInt8))
    case true=>exact⟨_,rfl⟩
    cases decide (m=([38]:List UInt8))
    case true=>exact⟨_,rfl⟩
    cases decide (m=([61,61]:List UInt8))
    case true=>exact⟨_,rfl⟩
    cases decide (m=([33,61]:List UInt8))
    case true=>exact⟨_,rfl⟩
    cases decide (m=([60]:List UInt8))
    case true=>exact⟨_,rfl⟩
    cases decide (m=([62]:List UInt8))
    case true=>exact⟨_,rfl⟩
    cases decide (m=([60,61]:List UInt8))
    case true=>exact⟨_,rfl⟩
    cases decide (m=([62,61]:List UInt8))
    case true=>exact⟨_,rfl⟩
    cases decide (m=([60,60]:List UInt8))
    case true=>exact⟨_,rfl⟩
    cases decide (m=([62,62]:List UInt8))
    case true=>exact⟨_,rfl⟩
    cases decide (m=([43]:List UInt8))
    case true=>exact⟨_,rfl⟩
    cases decide (m=([45]:List UInt8))
    case true=>exact⟨_,rfl⟩
    cases decide (m=([42]:List UInt8))
    case true=>exact⟨_,rfl⟩
    cases decide (m=([47]:List UInt8))
    case true=>exact⟨_,rfl⟩
    cases decide (m=([37]:List UInt8))<;>exact⟨_,rfl⟩
   obtain⟨k,hk⟩:=this;exact⟨k,hk,fun _=>h⟩
theorem cond_s{n:Nat}(h:S1 n):∀r,Rd r->10*r.l.length+5<=n+1->Ok ((Q6t (n+1)).N8 r) (PE r):=by
 intro r hr hn;show Ok (Q4x (Q6t n) r) _;unfold Q4x;refine(h.binary r 1 hr (by omega)).bind fun y1 a1=>?_;have hr1:=hr.after a1.2;obtain⟨m,em,hm,hne⟩:=Z7q hr1;refine Ok.step em ?_
 by_cases h63:m=[63]
 . rw[c0 (by rw[dt h63];rfl)];obtain⟨p,o,y3,e3,ho,a3,pp,pm⟩:=Q9h hr1 6 (hne (by rw[h63];simp));refine Ok.step e3 ?_;have l1:=a1.2.len;have l3:=a3.len;have a13:=a1.2.trans a3;refine(h.assign y3 (hr1.after a3) (by omega)).bind fun y4 a4=>?_;have a14:=a13.trans a4.2;refine(N0 y4.2 _).bind fun y5 a5=>?_;have a15:=a14.trans a5;have hr5:=hr.after a15;have l5:=a15.len;refine(Z9b hr5).bind fun y6 d6=>?_;have hr6:=hr5.down d6;refine(h.cond y6 hr6 (by rw[d6.1];omega)).bind fun y7 a7=>?_;have a57:=Af.up hr5 d6 a7.2;refine Ok.step (x:={y7.2 with depth:=qJ .i64 (y7.2.depth-1)}) rfl ?_;refine Ok.ok ⟨Y6j (by simp[a1.1,a4.1,a7.1]) (by simp) (by simp) (show Z5d 6<=3 by decide) (Ex.of (k:=6) pp (by decide) (by decide)),(a15.trans a57).mono ?_⟩
   dsimp only
   rw[wEk,sm3];omega
 . rw[c1 (by rw[df h63];rfl)];exact Ok.ok a1
theorem binary_s{n:Nat}(h:S1 n):∀r k,Rd r->10*r.l.length+4<=n+1->Ok ((Q6t (n+1)).E8 r k) (PE r):=by
 intro r k hr hn;show Ok (Q2b (Q6t n) r k) _;unfold Q2b;have lr:=hr.len;refine(h.unary r hr (by omega)).bind fun y1 a1=>?_;refine Ok.loop (fun s=>PE r s) (fun s=>s.2.l.length) a1 (by have:=a1.2.len;dsimp only;omega) ?_;rintro⟨x1,x2⟩ hp;have li:=hp.2.len
 dsimp only at li
 have hr2:=hr.after hp.2;obtain⟨m,em,hm,hne⟩:=Z7q hr2;obtain⟨q,eq,hq⟩:=rank_any m
 dsimp only at em⊢
 refine Rn.step em ?_;refine Rn.step eq ?_
 by_cases h1:q<k
 . rw[c1 (dt h1)];exact Rn.ok (Ok.ok hp)
 rw[c0 (df h1)]
 by_cases h2:q=0
 . rw[c1 (by rw[h2];rfl)];exact Rn.ok (Ok.ok hp)
 rw[c0 (by simpa using h2)];obtain⟨p,o,y4,e4,ho,a4,pp,pm⟩:=Q9h hr2 4 (hne (hq h2));refine Rn.step e4 ?_;have a24:=hp.2.trans a4;have l4:=a4.len
 dsimp only at l4
 refine Rn.bind (h.binary y4 _ (hr.after a24) (by omega)) (fun y5 a5=>?_) (fun e=>Ok.err);have l5:=a5.2.len;refine Rn.ok ⟨⟨Y6j (by simp[hp.1,a5.1]) ho (by simp) (show Z5d 4<=2 by decide) (Ex.of (k:=4) pp (by decide) (by decide)),(a24.trans a5.2).mono ?_⟩,by dsimp only;omega⟩
 dsimp only
 rw[wEk,sm2];omega
theorem post_s{n:Nat}(h:S1 n):∀r,Rd r->10*r.l.length+2<=n+1->Ok ((Q6t (n+1)).A9 r) (PE r):=by
 intro r hr hn;show Ok (Q4v (Q6t n) r) _;unfold Q4v;have lr:=hr.len;refine(h.prime r hr (by omega)).bind fun y1 a1=>?_;refine Ok.loop (fun s=>PE r s) (fun s=>s.2.l.length) a1 (by have:=a1.2.len;dsimp only;omega) ?_;rintro⟨x1,x2⟩ hp;have li:=hp.2.len
 dsimp only at li
 have hr2:=hr.after hp.2;have hx1:=Q4s x1;obtain⟨m,em,hm,hne⟩:=Z7q hr2
 dsimp only[jn]at em⊢
 refine Rn.step em ?_
 by_cases h1:m=[91]
 . rw[c1 (dt h1)];obtain⟨p,o,y3,e3,ho,a3,pp,pm⟩:=Q9h hr2 8 (hne (by rw[h1];simp));refine Rn.step e3 ?_;have a23:=hp.2.trans a3;have l3:=a3.len
   dsimp only at l3
   refine Rn.bind (h.assign y3 (hr.after a23) (by omega)) (fun y4 a4=>?_) (fun e=>Ok.err);refine Rn.bind (N0 y4.2 _) (fun y5 a5=>?_) (fun e=>Ok.err);have l4:=a4.2.len;have l5:=a5.len;refine Rn.ok ⟨⟨Y6j (by simp[hp.1,a4.1]) (by simp) (by simp) (show Z5d 8<=2 by decide) (Ex.of (k:=8) pp (by decide) (by decide)),((a23.trans a4.2).trans a5).mono ?_⟩,by dsimp only;omega⟩
   dsimp only
   rw[wEk,sm2];omega
 rw[c0 (df h1)]
 have dot:m≠[]->Rn ((J9 x2 9).bind fun y6=>(G7 y6.2).bind fun y7=>exL y7 (fun y7=>some (Lp.go (({y6.1 with Name:=y7.1,Kids:=([x1]:List Y8)}:Y8),y7.2)))) (NxR (fun s=>PE r s) (fun s=>s.2.l.length) (x1,x2) (fun o=>o.thn (fun(x1,x2)=>none) (fun r=>some r)) (PE r)):=by
  intro hm;obtain⟨p,o,y6,e6,ho,a6,pp,pm⟩:=Q9h hr2 9 (hne hm);refine Rn.step e6 ?_;have a26:=hp.2.trans a6;refine Rn.bind (Z4t (hr.after a26)) (fun y7 a7=>?_) (fun e=>Ok.err);have l6:=a6.len;have l7:=a7.2.1.len
  dsimp only at l6 l7
  refine Rn.ok ⟨⟨Y6j (by simp[hp.1]) ho a7.1 (show Z5d 9<=1 by decide) (Ex.of (k:=9) pp (by decide) (by decide)),(a26.trans a7.2.1).mono ?_⟩,by dsimp only;omega⟩
  dsimp only
  rw[wEk,sm1];omega
 have inc:m≠[]->Rn ((J9 x2 11).bind fun y8=>some (Lp.go (({y8.1 with Kids:=([x1]:List Y8)}:Y8),y8.2))) (NxR (R:=Except (Y3×Z0) (Y8×Z0)) (fun s=>PE r s) (fun s=>s.2.l.length) (x1,x2) (fun o=>o.thn (fun(x1,x2)=>none) (fun r=>some r)) (PE r)):=by
  intro hm;obtain⟨p,o,y8,e8,ho,a8,pp,pm⟩:=Q9h hr2 11 (hne hm);refine Rn.step e8 ?_;have l8:=a8.len
  dsimp only at l8
  refine Rn.ok ⟨⟨Y6j (by simp[hp.1]) ho (by simp) (show Z5d 11<=1 by decide) (Ex.of (k:=11) pp (by decide) (by decide)),(hp.2.trans a8).mono ?_⟩,by dsimp only;omega⟩
  dsimp only
  rw[wEk,sm1];omega
 by_cases h2:m=[46]
 . rw[c1 (dt h2),c1 (dt h2)];exact dot (by rw[h2];simp)
 rw[c0 (df h2)]
 by_cases h3:m=[45,62]
 . rw[c1 (dt h3)];exact dot (by rw[h3];simp)
 rw[c0 (df h3)]
 by_cases h4:m=[43,43]
 . rw[c1 (dt h4),c1 (dt h4)];exact inc (by rw[h4];simp)
 rw[c0 (df h4)]
 by_cases h5:m=[45,45]
 . rw[c1 (dt h5)];exact inc (by rw[h5];simp)
 rw[c0 (df h5)];exact Rn.ok (Ok.ok hp)
theorem unary_s{n:Nat}(h:S1 n):∀r,Rd r->10*r.l.length+3<=n+1->Ok ((Q6t (n+1)).E0 r) (PE r):=by
 intro r hr hn;show Ok (Q3p (Q6t n) r) _;unfold Q3p;refine(Z9b hr).bind fun y1 d1=>?_;have hr1:=hr.down d1;obtain⟨m,em,hm,hne⟩:=Z7q hr1;refine Ok.step em ?_
 dsimp only[jn]
 have l1:y1.l.length=r.l.length:=by rw[d1.1]
 have op:∀k:Int,(Z5d k<=1/\k≠7/\k≠5)->m≠[]->Ok ((J9 y1 k).bind fun y3=>((Q6t n).E0 y3.2).bind fun y4=>exC y4 (fun y4=>some (qX (ε:=Y3×Z0) (({y3.1 with Kids:=([y4.1]:List Y8)}:Y8),{y4.2 with depth:=qJ .i64 (y4.2.depth-1)}))) (fun e1=>some (qK (e1.1,{e1.2 with depth:=qJ .i64 (e1.2.depth-1)})))) (PE r):=by
  intro k hk hm;obtain⟨p,o,y3,e3,ho,a3,pp,pm⟩:=Q9h hr1 k (hne hm);refine Ok.step e3 ?_;have l3:=a3.len;refine Ok.bind (g:=fun e:Y3×Z0=>(e.1,{e.2 with depth:=qJ .i64 (e.2.depth-1)})) (h.unary y3 (hr1.after a3) (by omega)) fun y4 a4=>?_;refine Ok.ok ⟨Y6j (by simp[a4.1]) ho (by simp) hk.1 (Ex.of pp hk.2.1 hk.2.2),(Af.up hr d1 (a3.trans a4.2)).mono ?_⟩
  dsimp only
  rw[wEk,sm1];omega
 have rest:Ok ((F7 y1).bind fun y7=>(X7 y1 ([115,105,122,101,111,102]:List UInt8)).bind fun y8=>bif y8.1 then((X3 y8.2 ([40]:List UInt8)).bind fun y9=>exC y9 (fun y9=>(F3 y9).bind fun y10=>exC y10 (fun y10=>(X3 y10.2 ([41]:List UInt8)).bind fun y11=>exC y11 (fun y11=>some (qX (ε:=Y3×Z0) ((⟨12,y7,([]:List UInt8),([]:List UInt8),0,y10.1,[]⟩:Y8),{y11 with depth:=qJ .i64 (y11.depth-1)}))) (fun e4=>some (qK (e4.1,{e4.2 with depth:=qJ .i64 (e4.2.depth-1)})))) (fun e3=>some (qK (e3.1,{e3.2 with depth:=qJ .i64 (e3.2.depth-1)})))) (fun e5=>some (qK (e5.1,{e5.2 with depth:=qJ .i64 (e5.2.depth-1)}))))else(((Q6t n).A9 y8.2).bind fun y12=>exC y12 (fun y12=>some (qX (y12.1,{y12.2 with depth:=qJ .i64 (y12.2.depth-1)}))) (fun e6=>some (qK (e6.1,{e6.2 with depth:=qJ .i64 (e6.2.depth-1)}))))) (PE r):=by
  obtain⟨p,ep,pz⟩:=Y1g hr1;refine Ok.step ep ?_;obtain⟨b,y8,e8,a8⟩:=C0 y1 [115,105,122,101,111,102];refine Ok.step e8 ?_;have hr8:=hr1.after a8;have l8:=a8.len
  let g:Y3×Z0->Y3×Z0:=fun e=>(e.1,{e.2 with depth:=qJ .i64 (e.2.depth-1)})
  cases b with
  |true=>
   refine Ok.bind (g:=g) (N0 y8 _) fun y9 a9=>?_;refine Ok.bind (g:=g) (Z2x (hr8.after a9)) fun y10 a10=>?_;refine Ok.bind (g:=g) (N0 y10.2 _) fun y11 a11=>?_;refine Ok.ok ⟨.mk (by simp) (by simp) (by simp) a10.1 (show Z5d 12<=0 by decide) (Ex.of (k:=12) pz (by decide) (by decide)) Q4t,(Af.up hr d1 (((a8.trans a9).trans a10.2).trans a11)).mono ?_⟩;rw[X1k]
   simp[sm]
   omega
  |false=>
   refine Ok.bind (g:=g) (h.post y8 hr8 (by omega)) fun y12 a12=>?_;exact Ok.ok ⟨a12.1,(Af.up hr d1 (a8.trans a12.2)).mono (by dsimp only;omega)⟩
 by_cases h1:m=[45]
 . rw[c1 (dt h1),c1 (dt h1)];exact op 3 (by decide) (by rw[h1];simp)
 rw[c0 (df h1)]
 by_cases h2:m=[126]
 . rw[c1 (dt h2),c1 (dt h2)];exact op 3 (by decide) (by rw[h2];simp)
 rw[c0 (df h2)]
 by_cases h3:m=[33]
 . rw[c1 (dt h3),c1 (dt h3)];exact op 3 (by decide) (by rw[h3];simp)
 rw[c0 (df h3)]
 by_cases h4:m=[42]
 . rw[c1 (dt h4),c1 (dt h4)];exact op 3 (by decide) (by rw[h4];simp)
 rw[c0 (df h4)]
 by_cases h5:m=[38]
 . rw[c1 (dt h5)];exact op 3 (by decide) (by rw[h5];simp)
 rw[c0 (df h5)]
 by_cases h6:m=[43,43]
 . rw[c1 (dt h6),c1 (dt h6)];exact op 10 (by decide) (by rw[h6];simp)
 rw[c0 (df h6)]
 by_cases h7:m=[45,45]
 . rw[c1 (dt h7)];exact op 10 (by decide) (by rw[h7];simp)
 rw[c0 (df h7)];exact rest
theorem prime_s{n:Nat}(h:S1 n):∀r,Rd r->10*r.l.length+1<=n+1->Ok ((Q6t (n+1)).H6 r) (PE r):=by
 intro r hr hn;show Ok (Q3q (Q6t n) r) _;unfold Q3q;obtain⟨p,ep,pz⟩:=Y1g hr;refine Ok.step ep ?_
 dsimp only[jn]
 have lr:=hr.len;obtain⟨b,y2,e2,a2⟩:=C0 r [40];refine Ok.step e2 ?_;have l2:=a2.len;cases b with
 |true=>
  dsimp only[cond_true]at a2 l2
  refine(h.assign y2 (hr.after a2) (by omega)).bind fun y3 a3=>?_;refine(N0 y3.2 _).bind fun y4 a4=>?_;exact Ok.ok ⟨a3.1,((a2.trans a3.2).trans a4).mono (by dsimp only;omega)⟩
 |false=>
 obtain⟨b,y5,e5,a5⟩:=C0 y2 [105,110];refine Ok.step e5 ?_;have a25:=a2.trans a5;have l5:=a5.len;cases b with
 |true=>
  refine(N0 y5 _).bind fun y6 a6=>?_;refine(N0 y6 _).bind fun y7 a7=>?_;exact Ok.ok ⟨Y6j (by simp) (by simp) (by simp) (show Z5d 7<=0 by decide) ⟨pz,fun _ e=>absurd e (by decide),fun e=>absurd e (by decide)⟩,((a25.trans a6).trans a7).mono (by dsimp only;rw[wEk];simp[sm])⟩
 |false=>
 obtain⟨b,y8,e8,a8⟩:=C0 y5 [111,117,116];refine Ok.step e8 ?_;have a28:=a25.trans a8;have l8:=a8.len;have hr8:=hr.after a28;cases b with
 |true=>
  dsimp only[cond_true]at l8
  refine(h.bracketed y8 hr8 (by dsimp only[cond_false]at l2 l5;omega)).bind fun y9 a9=>?_;exact Ok.ok ⟨Y6j a9.1.1 (by simp) (by simp) (show Z5d 7<=_ from kX _) ⟨pz,fun _ _=>a9.2,fun e=>absurd e (by decide)⟩,(a28.trans a9.1.2).mono (by dsimp only;rw[wEk];dsimp only[cond_false];omega)⟩
 |false=>
 have nm:Ok ((G7 y8).bind fun y11=>exE y11 (fun y11=>(U5 y11.2 ([40]:List UInt8)).bind fun y12=>bif y12 then(((Q6t n).E7 y11.2).bind fun y13=>exE y13 (fun y13=>some (qX (ε:=Y3×Z0) ((⟨7,p,([]:List UInt8),y11.1,0,(⟨([]:List UInt8),([]:List UInt8),0⟩:M6),y13.1⟩:Y8),y13.2))))else(some (qX ((⟨2,p,([]:List UInt8),y11.1,0,(⟨([]:List UInt8),([]:List UInt8),0⟩:M6),[]⟩:Y8),y11.2))))) (PE r):=by
  refine(Z4t hr8).bind fun y11 a11=>?_;obtain⟨b,e12,_⟩:=Z4j y11.2 [40];refine Ok.step e12 ?_;have l11:=a11.2.1.len;cases b with
  |true=>
   refine(h.handed y11.2 (hr8.after a11.2.1) (by dsimp only[cond_false]at l2 l5 l8;omega)).bind fun y13 a13=>?_;exact Ok.ok ⟨Y6j a13.1 (by simp) a11.1 (show Z5d 7<=_ from kX _) ⟨pz,fun _ e=>absurd e a11.2.2,fun e=>absurd e (by decide)⟩,((a28.trans a11.2.1).trans a13.2).mono (by dsimp only;rw[wEk];dsimp only[cond_false];omega)⟩
  |false=>exact Ok.ok ⟨Y6j (by simp) (by simp) a11.1 (show Z5d 2<=0 by decide) (Ex.of (k:=2) pz (by decide) (by decide)),(a28.trans a11.2.1).mono (by dsimp only;rw[wEk];simp[sm])⟩
 cases hl:y8.l with
 |nil=>
  rw[c0 (df (by simp))];exact nm
 |cons t l=>
  rw[c1 (dt (by simp only[qY];omega))]
  dsimp only[cond_false]
  refine Ok.step (x:=t) rfl ?_
  by_cases hk:t.Kind=3
  . rw[c1 (by rw[hk];rfl)];refine(Y4r y8 3).bind fun y10 a10=>?_;exact Ok.ok ⟨Y6j (by simp) (by simp) (by simp) (show Z5d 1<=0 by decide) (Ex.of (k:=1) pz (by decide) (by decide)) (hr8.tu _ a10.1.1),(a28.trans a10.2).mono (by dsimp only;rw[wEk];simp[sm])⟩
  . rw[c0 (by simpa using hk)];exact nm
theorem rdS1:∀n,S1 n
 |0=>⟨fun r _ h=>by omega,fun r _ h=>by omega,fun r _ h=>by omega,fun r _ h=>by omega,fun r _ h=>by omega,fun r k _ h=>by omega,fun r _ h=>by omega,fun r _ h=>by omega⟩
 |n+1=>⟨X2v (rdS1 n),handed_s (rdS1 n),prime_s (rdS1 n),post_s (rdS1 n),unary_s (rdS1 n),binary_s (rdS1 n),cond_s (rdS1 n),assign_s (rdS1 n)⟩
theorem Z9k{r:Z0}(hr:Rd r):Ok (V1 r) (PE r):=(rdS1 NN).assign r hr (by have:=hr.len;unfold NN;omega)
theorem Z4o{r:Z0}(hr:Rd r):Ok (J0 r) (PL1 r 2):=(rdS1 NN).bracketed r hr (by have:=hr.len;unfold NN;omega)
theorem Y8a{r:Z0}(hr:Rd r){v:M7}(ht:OkT v.Type_)(hn:v.Name.length<=70000)(hp:Pn v.Pos):Ok (L7 r v) (fun x=>OkV x.1/\x.1.Type_=v.Type_/\Af r x.2 (x.1.Dims.length+sm wE x.1.Init+1)):=by
 unfold L7;have lr:=hr.len;refine(X2k hr).bind fun y1 a1=>?_
 dsimp only[jn]
 have fin:∀(x3:M7)(x4:Z0),OkV x3->x3.Type_=v.Type_->Af r x4 (x3.Dims.length+sm wE x3.Init)->Ok ((X3 x4 ([59]:List UInt8)).bind fun y10=>exE y10 (fun y10=>some (qX (ε:=Y3×Z0) (x3,y10)))) (fun x=>OkV x.1/\x.1.Type_=v.Type_/\Af r x.2 (x.1.Dims.length+sm wE x.1.Init+1)):=by
  intro x3 x4 h1 h2 h3;exact(N0 x4 _).bind fun y a=>Ok.ok ⟨h1,h2,h3.trans a⟩
 obtain⟨b,y2,e2,a2⟩:=C0 y1.2 [61];refine Ok.step e2 ?_;have a12:=a1.trans a2;cases b with
 |false=>exact fin _ _ ⟨hn,ht,by simp,hp,fun _=>by simp⟩ rfl (a12.mono (by simp[sm]))
 |true=>
  obtain⟨c,y3,e3,a3⟩:=C0 y2 [123]
  dsimp only[cond_true]
  refine Ok.step e3 ?_;have a13:=a12.trans a3;refine(Z9k (hr.after a13)).bind fun y4 a4=>?_;refine Ok.step (B7 (by simp)) ?_;have a14:=a13.trans a4.2;refine Ok.loop (fun s=>OkV s.1/\s.1.Type_=v.Type_/\Af r s.2 (s.1.Dims.length+sm wE s.1.Init)) (fun s=>s.2.l.length) ⟨⟨hn,ht,by simpa using a4.1,hp,fun _=>by simp⟩,rfl,a14.mono (by dsimp only;rw[List.nil_append,sm1];omega)⟩ (by have:=a14.len;dsimp only;omega) ?_;rintro⟨x7,x8⟩ ⟨i1,i2,i3⟩
  dsimp only at i1 i2 i3⊢
  have li:=i3.len;have hx:=Q3l Q4s x7.Init
  have stop:∀y5,Af r y5 (x7.Dims.length+sm wE x7.Init)->Ok (bif x7.Brace then((X3 y5 ([125]:List UInt8)).bind fun y7=>exE y7 (fun y7=>(X3 y7 ([59]:List UInt8)).bind fun y10=>exE y10 (fun y10=>some (qX (ε:=Y3×Z0) (x7,y10)))))else((X3 y5 ([59]:List UInt8)).bind fun y10=>exE y10 (fun y10=>some (qX (ε:=Y3×Z0) (x7,y10))))) (fun x=>OkV x.1/\x.1.Type_=v.Type_/\Af r x.2 (x.1.Dims.length+sm wE x.1.Init+1)):=by
   intro y5 h5;cases x7.Brace with
   |true=>exact(N0 y5 _).bind fun y7 a7=>fin _ _ i1 i2 ((h5.trans a7).mono (by omega))
   |false=>exact fin _ _ i1 i2 h5
  cases hb:x7.Brace with
  |false=>
   refine Rn.ok ?_;have:=stop x8 i3;rw[hb]at this
   dsimp only[NxR,Lp.thn]
   rw[hb];exact this
  |true=>
   obtain⟨b,y5,e5,a5⟩:=C0 x8 [44]
   dsimp only[cond_true]
   refine Rn.step e5 ?_;have a35:=i3.trans a5;have l5:=a5.len;cases b with
   |false=>
    refine Rn.ok ?_;have:=stop y5 (a35.mono (by omega));rw[hb]at this
    dsimp only[NxR,Lp.thn]
    rw[hb];exact this
   |true=>
    dsimp only[cond_true]at l5
    refine Rn.bind (Z9k (hr.after a35)) (fun y6 a6=>?_) (fun e=>Ok.err);refine Rn.step (B7 (by simp;omega)) ?_;have l6:=a6.2.len
    dsimp only at l6
    refine Rn.ok ⟨⟨⟨i1.name,i1.ty,?_,i1.pos,fun e=>by cases e⟩,i2,(a35.trans a6.2).mono (by dsimp only[cond_true];rw[Q2w,sm1];omega)⟩,by dsimp only;omega⟩;intro y hy
    rcases jQ.1 hy with hy|hy
    . exact i1.init y hy
    . have:y=y6.1:=by simpa using hy
      rw[this];exact a6.1
theorem Y9s{r:Z0}(hr:Rd r):Ok (Q1z r) (fun x=>OkV x.1/\Af r x.2 (wV x.1+2)):=by
 unfold Q1z;obtain⟨p,ep,pz⟩:=Y1g hr;refine Ok.step ep ?_;refine(Z2x hr).bind fun y2 a2=>?_;refine(Z4t (hr.after a2.2)).bind fun y3 a3=>?_;have a23:=a2.2.trans a3.2.1;refine(Y8a (hr.after a23) (v:=⟨p,y2.1,y3.1,[],[],false⟩) a2.1 a3.1 pz).bind fun y4 a4=>?_;refine Ok.ok ⟨a4.1,(a23.trans a4.2.2).mono ?_⟩;have h:wV y4.1=1+y4.1.Type_.Stars.toNat+y4.1.Dims.length+sm wE y4.1.Init:=rfl
 dsimp only
 rw[h,a4.2.1]
 dsimp only
 omega
theorem X1y(r:Z0)(k:Nat)(m:List UInt8):∃b,I4 r (k:Int) m=some b:=by
 unfold I4
 by_cases h:k<r.l.length
 . rw[c1 (dlt h),C1 h,qV]
   by_cases ht:r.l[k].Text=m
   . rw[c1 (dt ht),qV];cases(r.l[k].Kind==2)<;>exact⟨_,rfl⟩
   . rw[c0 (df ht)];exact⟨_,rfl⟩
 . rw[c0 (df (by omega))];exact⟨_,rfl⟩
theorem wV0{p:Pos}{t:M6}{s:List UInt8}{b:Bool}{d:List Int}:wV ⟨p,t,s,d,[],b⟩=1+t.Stars.toNat+d.length:=rfl
theorem X3s{r:Z0}(hr:Rd r):Ok (W2 r) (fun x=>(∀v∈x.1,OkV v)/\Af r x.2 (sm wV x.1+2)):=by
 unfold W2;have lr:=hr.len;refine(N0 r _).bind fun y1 a1=>?_
 dsimp only[jn]
 have key:∀x1,Af r x1 1->Ok ((X7 x1 ([41]:List UInt8)).bind fun y5=>bif y5.1 then(some (qX ([],y5.2)))else((X5 (fun(x2,x3)=>((F7 x3).bind fun y6=>(F3 x3).bind fun y7=>exL y7 (fun y7=>(G7 y7.2).bind fun y8=>exL y8 (fun y8=>(L1 (qQ x2+qQ ([(⟨y6,y7.1,y8.1,[],[],false⟩:M7)]:List M7))).bind fun _=>(X7 y8.2 ([44]:List UInt8)).bind fun y9=>bif !y9.1 then((X3 y9.2 ([41]:List UInt8)).bind fun y10=>exL y10 (fun y10=>some (Lp.ret (qX (x2++([(⟨y6,y7.1,y8.1,[],[],false⟩:M7)]:List M7),y10)))))else(some (Lp.go (x2++([(⟨y6,y7.1,y8.1,[],[],false⟩:M7)]:List M7),y9.2))))):Option (Lp ((List M7)×Z0) (Except (Y3×Z0) ((List M7)×Z0))))) NN ([],y5.2)).bind fun o=>o.thn (fun(x2,x3)=>none) (fun r=>some r))) (fun x=>(∀v∈x.1,OkV v)/\Af r x.2 (sm wV x.1+2)):=by
  intro x1 h1;obtain⟨b,y5,e5,a5⟩:=C0 x1 [41];refine Ok.step e5 ?_;have a15:=h1.trans a5;cases b with
  |true=>exact Ok.ok ⟨by simp,a15.mono (by simp[sm])⟩
  |false=>
   refine Ok.loop (fun s=>(∀v∈s.1,OkV v)/\Af r s.2 (sm wV s.1+1)) (fun s=>s.2.l.length) ⟨by simp,a15.mono (by simp[sm])⟩ (by have:=a15.len;dsimp only;omega) ?_;rintro⟨x2,x3⟩ ⟨i1,i2⟩
   dsimp only at i1 i2⊢
   have li:=i2.len;have hx:=Q3l Y0q x2;obtain⟨p,ep,pz⟩:=Y1g (hr.after i2);refine Rn.step ep ?_;refine Rn.bind (Z2x (hr.after i2)) (fun y7 a7=>?_) (fun e=>Ok.err);have a37:=i2.trans a7.2;refine Rn.bind (Z4t (hr.after a37)) (fun y8 a8=>?_) (fun e=>Ok.err);have a38:=a37.trans a8.2.1;refine Rn.step (B7 (by simp;omega)) ?_;obtain⟨b,y9,e9,a9⟩:=C0 y8.2 [44];refine Rn.step e9 ?_;have a39:=a38.trans a9
   have hv:∀v∈x2++[(⟨p,y7.1,y8.1,[],[],false⟩:M7)],OkV v:=by
    intro v hv
    rcases jQ.1 hv with hv|hv
    . exact i1 v hv
    . have:v=⟨p,y7.1,y8.1,[],[],false⟩:=by simpa using hv
      rw[this];exact⟨a8.1,a7.1,by simp,pz,fun _=>by simp⟩
   have hw:sm wV (x2++[(⟨p,y7.1,y8.1,[],[],false⟩:M7)])=sm wV x2+(1+y7.1.Stars.toNat):=by
    rw[Q2w,Z0f,wV0]
    simp[sm]
   have l7:=a7.2.len;have l8:=a8.2.1.len;have l9:=a9.len;cases b with
   |false=>
    refine Rn.bind (N0 y9 _) (fun y10 a10=>?_) (fun e=>Ok.err);exact Rn.ok (Ok.ok ⟨hv,(a39.trans a10).mono (by dsimp only;rw[hw];dsimp only[cond_false];omega)⟩)
   |true=>
    exact Rn.ok ⟨⟨hv,a39.mono (by dsimp only;rw[hw];dsimp only[cond_true];omega)⟩,by dsimp only[cond_true]at l9⊢;omega⟩
 obtain⟨b,e2,_⟩:=Z4j y1 [118,111,105,100];refine Ok.step e2 ?_;cases b with
 |false=>exact key y1 a1
 |true=>
  obtain⟨c,e3⟩:=X1y y1 1 [41];refine Ok.step e3 ?_;cases c with
  |false=>exact key y1 a1
  |true=>exact(N0 y1 _).bind fun y4 a4=>key y4 ((a1.trans a4).mono (by omega))
theorem X3y{r:Z0}(hr:Rd r):Ok (Q4w r) (fun x=>(∀v∈x.1,OkV v)/\Af r x.2 (sm wV x.1+3)):=by
 unfold Q4w;have lr:=hr.len;refine(N0 r _).bind fun y1 a1=>?_;refine Ok.loop (fun s=>(∀v∈s.1,OkV v)/\Af r s.2 (sm wV s.1+1)) (fun s=>s.2.l.length) ⟨by simp,a1.mono (by simp[sm])⟩ (by have:=a1.len;dsimp only;omega) ?_;rintro⟨x1,x2⟩ ⟨i1,i2⟩
 dsimp only at i1 i2⊢
 have li:=i2.len;have hx:=Q3l Y0q x1;obtain⟨b,y2,e2,a2⟩:=C0 x2 [125];refine Rn.step e2 ?_;have a12:=i2.trans a2;have l2:=a12.len;cases b with
 |true=>
  dsimp only[cond_true,cond_false,Bool.not_true]at a12⊢
  refine Rn.ok ?_;refine(N0 y2 _).bind fun y8 a8=>Ok.ok ⟨i1,(a12.trans a8).mono (by dsimp only;omega)⟩
 |false=>
  dsimp only[cond_true,cond_false,Bool.not_false]at a12 l2⊢
  obtain⟨p,ep,pz⟩:=Y1g (hr.after a12);refine Rn.step ep ?_;refine Rn.bind (Z2x (hr.after a12)) (fun y4 a4=>?_) (fun e=>Ok.err);have a24:=a12.trans a4.2;refine Rn.bind (Z4t (hr.after a24)) (fun y5 a5=>?_) (fun e=>Ok.err);have a25:=a24.trans a5.2.1;refine Rn.bind (X2k (hr.after a25)) (fun y6 a6=>?_) (fun e=>Ok.err);have a26:=a25.trans a6;refine Rn.bind (N0 y6.2 _) (fun y7 a7=>?_) (fun e=>Ok.err);have a27:=a26.trans a7;have l7:=a27.len;have l3:=a2.len;have l4:=a4.2.len;have l5:=a5.2.1.len;have l6:=a6.len;have l8:=a7.len;refine Rn.step (B7 (by simp;omega)) ?_;refine Rn.ok ⟨⟨?_,a27.mono ?_⟩,by dsimp only at*;omega⟩
  . intro v hv
    rcases jQ.1 hv with hv|hv
    . exact i1 v hv
    . have:v=⟨p,y4.1,y5.1,y6.1,[],false⟩:=by simpa using hv
      rw[this];exact⟨a5.1,a4.1,by simp,pz,fun _=>by simp⟩
  . dsimp only
    rw[Q2w,Z0f,wV0]
    simp only[sm,List.map_nil,List.sum_nil]
    omega
theorem Z6m{r:Z0}(hr:Rd r)(m:List UInt8):Ok (I8 r m) (PL r 1):=by
 unfold I8;obtain⟨b,y1,e1,a1⟩:=C0 r m;refine Ok.step e1 ?_;cases b with
 |true=>exact Ok.ok ⟨by simp,a1.mono (by simp[sm])⟩
 |false=>
  refine(Z9k (hr.after a1)).bind fun y2 a2=>?_;refine(N0 y2.2 _).bind fun y3 a3=>?_;exact Ok.ok ⟨by simpa using a2.1,((a1.trans a2.2).trans a3).mono (by dsimp only;rw[sm1];omega)⟩
theorem okS{k:Int}{p:Pos}{A B C:List Y8}{V:List M7}{S E:List E5}{D:List Q1e}(a:∀y∈A,OkE y)(b:∀y∈B,OkE y)(c:∀y∈C,OkE y)(v:∀y∈V,OkV y)(s:∀y∈S,OkS y)(e:∀y∈E,OkS y)(d:∀c∈D,∀y∈c.Body,OkS y)(sp:Pn p)(sa:Sa k A.length V.length)(cp:∀c∈D,Pn c.Pos):OkS ⟨k,p,A,B,C,V,S,E,D⟩:= .mk a b c v s e d sp sa cp
theorem Sa.a{k:Int}{a v:Nat}(h:1<=a)(h2:k≠2):Sa k a v:=⟨fun _=>h,fun e=>absurd e h2⟩
theorem Sa.n{k:Int}{a v:Nat}(h:¬(k=1\/k=3\/k=4\/k=5\/k=7))(h2:k≠2):Sa k a v:=⟨fun e=>absurd e h,fun e=>absurd e h2⟩
theorem wSk{k:Int}{p:Pos}{A B C:List Y8}{V:List M7}{S E:List E5}{D:List Q1e}:wS ⟨k,p,A,B,C,V,S,E,D⟩=1+sm wE A+sm wE B+sm wE C+sm wV V+sm wS S+sm wS E+sm wC D:=Y2t _
theorem sm0{α:Type}(w:α->Nat):sm w []=0:=rfl
theorem no{α:Type}{p:α->Prop}:∀y∈([]:List α),p y:=fun y hy=>by cases hy
theorem X5f{r:Z0}(hr:Rd r)(p:Pos)(hp:Pn p):Ok (Q6j r ⟨0,p,[],[],[],[],[],[],[]⟩) (fun x=>OkS x.2/\Af r x.1 (wS x.2)):=by
 unfold Q6j;obtain⟨b,y1,e1,a1⟩:=C0 r [114,101,116,117,114,110];refine Ok.step e1 ?_;cases b with
 |true=>
  refine(Z6m (hr.after a1) _).bind fun y2 a2=>?_;exact Ok.ok ⟨okS a2.1 no no no no no no hp (Sa.n (by decide) (by decide)) no,(a1.trans a2.2).mono (by dsimp only[cond_true];rw[wSk];simp only[sm0];omega)⟩
 |false=>
 obtain⟨b,y3,e3,a3⟩:=C0 y1 [98,114,101,97,107];refine Ok.step e3 ?_;have a13:=a1.trans a3;cases b with
 |true=>
  refine(N0 y3 _).bind fun y4 a4=>?_;exact Ok.ok ⟨okS no no no no no no no hp (Sa.n (by decide) (by decide)) no,(a13.trans a4).mono (by dsimp only[cond_true,cond_false];rw[wSk];simp only[sm0];omega)⟩
 |false=>
 obtain⟨b,y5,e5,a5⟩:=C0 y3 [99,111,110,116,105,110,117,101];refine Ok.step e5 ?_;have a15:=a13.trans a5;cases b with
 |true=>
  refine(N0 y5 _).bind fun y6 a6=>?_;exact Ok.ok ⟨okS no no no no no no no hp (Sa.n (by decide) (by decide)) no,(a15.trans a6).mono (by dsimp only[cond_true,cond_false];rw[wSk];simp only[sm0];omega)⟩
 |false=>
  refine(Z9k (hr.after a15)).bind fun y7 a7=>?_;refine(N0 y7.2 _).bind fun y8 a8=>?_;exact Ok.ok ⟨okS (by simpa using a7.1) no no no no no no hp (Sa.a (qD 1) (by decide)) no,((a15.trans a7.2).trans a8).mono (by dsimp only[cond_false];rw[wSk,sm1];simp only[sm0];omega)⟩
def PB(r:Z0)(k:Nat)(x:List E5×Z0):Prop:=(∀y∈x.1,OkS y)/\Af r x.2 (sm wS x.1+k)
def OkC(c:Q1e):Prop:=(∀y∈c.Body,OkS y)/\Pn c.Pos
def PC(r:Z0)(k:Nat)(x:List Q1e×Z0):Prop:=(∀c∈x.1,OkC c)/\Af r x.2 (sm wC x.1+k)
def PS(r:Z0)(x:E5×Z0):Prop:=OkS x.1/\Af r x.2 (wS x.1)
structure S2(n:Nat):Prop where
 block:∀r,Rd r->10*r.l.length+1<=n->Ok ((Z5w n).E6 r) (PB r 2)
 cases_:∀r,Rd r->10*r.l.length+1<=n->Ok ((Z5w n).H7 r) (PC r 2)
 stmt:∀r,Rd r->10*r.l.length+2<=n->Ok ((Z5w n).F4 r) (PS r)
 body:∀r,Rd r->10*r.l.length+3<=n->Ok ((Z5w n).G8 r) (PB r 0)
theorem body_s{n:Nat}(h:S2 n):∀r,Rd r->10*r.l.length+3<=n+1->Ok ((Z5w (n+1)).G8 r) (PB r 0):=by
 intro r hr hn;show Ok (Q4y (Z5w n) r) _;unfold Q4y;refine(h.stmt r hr (by omega)).bind fun y1 a1=>?_;have hw:=Y2t y1.1;cases hk:(y1.1.Kind==11)with
 |true=>exact Ok.ok ⟨match a1.1 with| .mk a b c v s e d _ _ _=>s,a1.2.mono (by dsimp only;omega)⟩
 |false=>exact Ok.ok ⟨by simpa using a1.1,a1.2.mono (by dsimp only;rw[Z0f,sm0];omega)⟩
theorem block_s{n:Nat}(h:S2 n):∀r,Rd r->10*r.l.length+1<=n+1->Ok ((Z5w (n+1)).E6 r) (PB r 2):=by
 intro r hr hn;show Ok (Q3s (Z5w n) r) _;unfold Q3s;have lr:=hr.len;refine(N0 r _).bind fun y1 a1=>?_;refine Ok.loop (fun s=>(∀y∈s.1,OkS y)/\Af r s.2 (sm wS s.1+1)) (fun s=>s.2.l.length) ⟨no,a1.mono (by simp[sm])⟩ (by have:=a1.len;dsimp only;omega) ?_;rintro⟨x1,x2⟩ ⟨i1,i2⟩
 dsimp only at i1 i2⊢
 have li:=i2.len;have hx:=Q3l Y0r x1;obtain⟨b,y2,e2,a2⟩:=C0 x2 [125];refine Rn.step e2 ?_;have a12:=i2.trans a2;have l2:=a12.len;have l3:=a2.len;cases b with
 |true=>
  dsimp only[cond_true,cond_false,Bool.not_true]at a12⊢
  exact Rn.ok (Ok.ok ⟨i1,a12.mono (by dsimp only;omega)⟩)
 |false=>
  dsimp only[cond_true,cond_false,Bool.not_false]at a12 l2 l3⊢
  refine Rn.bind (h.stmt y2 (hr.after a12) (by omega)) (fun y3 a3=>?_) (fun e=>Ok.err);have a13:=a12.trans a3.2;have l4:=a3.2.len;have hp:=Y0r y3.1;refine Rn.step (B7 (by simp;omega)) ?_;refine Rn.ok ⟨⟨?_,a13.mono (by dsimp only;rw[Q2w,Z0f,sm0];omega)⟩,by dsimp only;omega⟩;intro y hy
  rcases jQ.1 hy with hy|hy
  . exact i1 y hy
  . have:y=y3.1:=by simpa using hy
    rw[this];exact a3.1
theorem cases_s{n:Nat}(h:S2 n):∀r,Rd r->10*r.l.length+1<=n+1->Ok ((Z5w (n+1)).H7 r) (PC r 2):=by
 intro r hr hn;show Ok (Q3r (Z5w n) r) _;unfold Q3r;have lr:=hr.len;refine(N0 r _).bind fun y1 a1=>?_;have l1:=a1.len;refine Ok.loop (fun s=>(∀c∈s.1,OkC c)/\Af r s.2 (sm wC s.1+1)) (fun s=>s.2.l.length) ⟨no,a1.mono (by simp[sm])⟩ (by dsimp only;omega) ?_;rintro⟨x1,x2⟩ ⟨i1,i2⟩
 dsimp only at i1 i2⊢
 have li:=i2.len;have hx:=Q3l wC_pos x1;obtain⟨b,y2,e2,a2⟩:=C0 x2 [125];refine Rn.step e2 ?_;have a12:=i2.trans a2;have l2:=a12.len;have l3:=a2.len;cases b with
 |true=>
  dsimp only[cond_true,cond_false,Bool.not_true]at a12⊢
  exact Rn.ok (Ok.ok ⟨i1,a12.mono (by dsimp only;omega)⟩)
 |false=>
  dsimp only[cond_true,cond_false,Bool.not_false]at a12 l2 l3⊢
  obtain⟨p,ep,pz⟩:=Y1g (hr.after a12);refine Rn.step ep ?_
  dsimp only[jn]
  have key:∀(x4:Q1e)(x5:Z0),x4.Body=[]->Pn x4.Pos->Af x2 x5 1->Rn ((X3 x5 ([58]:List UInt8)).bind fun y8=>exL y8 (fun y8=>(X5 (fun(x7,x8)=>((U5 x8 ([99,97,115,101]:List UInt8)).bind fun y9=>bif !y9 then((U5 x8 ([100,101,102,97,117,108,116]:List UInt8)).bind fun y10=>bif !y10 then((U5 x8 ([125]:List UInt8)).bind fun y11=>bif !y11 then(((Z5w n).F4 x8).bind fun y12=>exL y12 (fun y12=>(L1 (qQ x7.Body+qQ ([y12.1]:List E5))).bind fun _=>some (Lp.go ({x7 with Body:=x7.Body++([y12.1]:List E5)},y12.2))))else(some (Lp.brk (x7,x8))))else(some (Lp.brk (x7,x8))))else(some (Lp.brk (x7,x8))):Option (Lp (Q1e×Z0) (Except (Y3×Z0) ((List Q1e)×Z0))))) NN (x4,y8)).bind fun o=>o.thn (fun(x7,x8)=>(L1 (qQ x1+qQ ([x7]:List Q1e))).bind fun _=>some (Lp.go (x1++([x7]:List Q1e),x8))) (fun r=>some (Lp.ret r)))) (NxR (fun s=>(∀c∈s.1,OkC c)/\Af r s.2 (sm wC s.1+1)) (fun s=>s.2.l.length) (x1,x2) (fun o=>o.thn (fun(x1,x2)=>some (qX (ε:=Y3×Z0) (x1,x2))) (fun r=>some r)) (PC r 2)):=by
   intro x4 x5 hb hp a5;refine Rn.bind (N0 x5 _) (fun y8 a8=>?_) (fun e=>Ok.err);have a28:=a5.trans a8;have l8:=a28.len
   refine Exists.elim (L5 (body:=(fun(x7,x8)=>((U5 x8 ([99,97,115,101]:List UInt8)).bind fun y9=>bif !y9 then((U5 x8 ([100,101,102,97,117,108,116]:List UInt8)).bind fun y10=>bif !y10 then((U5 x8 ([125]:List UInt8)).bind fun y11=>bif !y11 then(((Z5w n).F4 x8).bind fun y12=>exL y12 (fun y12=>(L1 (qQ x7.Body+qQ ([y12.1]:List E5))).bind fun _=>some (Lp.go ({x7 with Body:=x7.Body++([y12.1]:List E5)},y12.2))))else(some (Lp.brk (x7,x8))))else(some (Lp.brk (x7,x8))))else(some (Lp.brk (x7,x8))):Option (Lp (Q1e×Z0) (Except (Y3×Z0) ((List Q1e)×Z0)))))) (n:=NN) (s:=(x4,y8))
    (fun s=>OkC s.1/\Af x2 s.2 (sm wS s.1.Body+2)) (fun s=>s.2.l.length)
    (fun o=>match o with
     | .go _=>False
     | .brk s=>OkC s.1/\Af x2 s.2 (sm wS s.1.Body+2)
     | .ret z=>∃e,z=qK e) ⟨⟨by rw[hb];exact no,hp⟩,by dsimp only;rw[hb];exact a28.mono (by simp[sm])⟩ (Q6f (by dsimp only;omega)) ?_) ?_
   . rintro⟨x7,x8⟩ ⟨j1,j2⟩
     dsimp only at j1 j2⊢
     have lj:=j2.len;have hx7:=Q3l Y0r x7.Body;obtain⟨b1,e1,_⟩:=Z4j x8 [99,97,115,101];rw[e1,qV];cases b1 with
     |true=>exact⟨_,rfl,j1,j2⟩
     |false=>
     rw[c1 (b:=!false) rfl];obtain⟨b1,e1,_⟩:=Z4j x8 [100,101,102,97,117,108,116];rw[e1,qV];cases b1 with
     |true=>exact⟨_,rfl,j1,j2⟩
     |false=>
     rw[c1 (b:=!false) rfl];obtain⟨b1,e1,_⟩:=Z4j x8 [125];rw[e1,qV];cases b1 with
     |true=>exact⟨_,rfl,j1,j2⟩
     |false=>
     rw[c1 (b:=!false) rfl];obtain⟨z,ez,hz⟩:=h.stmt x8 (hr.after (i2.trans j2)) (by omega);rw[ez,qV];cases z with
     |error e=>exact⟨_,rfl,_,rfl⟩
     |ok y12=>
      have lz:=hz.2.len;have hp:=Y0r y12.1
      dsimp only[exL,exC]
      rw[B7 (by simp;omega),qV];refine⟨_,rfl,⟨⟨?_,j1.2⟩,(j2.trans hz.2).mono (by dsimp only;rw[Q2w,Z0f,sm0];omega)⟩,by dsimp only;omega⟩;intro y hy
      rcases jQ.1 hy with hy|hy
      . exact j1.1 y hy
      . have:y=y12.1:=by simpa using hy
        rw[this];exact hz.1
   . rintro o ⟨ho,hp⟩;rw[ho,qV];cases o with
     |go _=>exact hp.elim
     |ret z=>
      obtain⟨e,rfl⟩:=hp;exact Rn.ok Ok.err
     |brk s=>
      obtain⟨x7,x8⟩:=s;obtain⟨j1,j2⟩:=hp
      dsimp only at j1 j2
      have lj:=j2.len;have hwc:wC x7=1+sm wS x7.Body:=rfl;refine Rn.step (B7 (by simp;omega)) ?_;refine Rn.ok ⟨⟨?_,(i2.trans j2).mono (by dsimp only;rw[Q2w,Z0f,sm0];omega)⟩,by dsimp only;omega⟩;intro c hc
      rcases jQ.1 hc with hc|hc
      . exact i1 c hc
      . have:c=x7:=by simpa using hc
        rw[this];exact j1
  obtain⟨b,y4,e4,a4⟩:=C0 y2 [100,101,102,97,117,108,116];refine Rn.step e4 ?_;have a24:=a2.trans a4;cases b with
  |true=>exact key _ _ rfl pz (a24.mono (by simp))
  |false=>
   refine Rn.bind (N0 y4 _) (fun y5 a5=>?_) (fun e=>Ok.err);obtain⟨b,y6,e6,a6⟩:=C0 y5 [45];refine Rn.step e6 ?_;refine Rn.bind (Y4r y6 3) (fun y7 a7=>?_) (fun e=>Ok.err);have a27:=((a24.trans a5).trans a6).trans a7.2;cases b with
   |true=>exact key _ _ rfl pz (a27.mono (by simp))
   |false=>exact key _ _ rfl pz (a27.mono (by simp))
def gS(e:Y3×Z0):Y3×Z0:=(e.1,{e.2 with depth:=qJ .i64 (e.2.depth-1)})
theorem stmt_s{n:Nat}(h:S2 n):∀r,Rd r->10*r.l.length+2<=n+1->Ok ((Z5w (n+1)).F4 r) (PS r):=by
 intro r hr hn;show Ok (Q4u (Z5w n) r) _;unfold Q4u;refine(Z9b hr).bind fun y1 d1=>?_;have hr1:=hr.down d1;have ld:y1.l.length=r.l.length:=by rw[d1.1]
 obtain⟨p,ep,pz⟩:=Y1g hr1;refine Ok.step ep ?_
 dsimp only[jn]
 have fin:∀(x1:E5)(x2:Z0),OkS x1->Af y1 x2 (wS x1)->Ok (some (qX (ε:=Y3×Z0) (x1,{x2 with depth:=qJ .i64 (x2.depth-1)}))) (PS r):=fun x1 x2 h1 h2=>Ok.ok ⟨h1,Af.up hr d1 h2⟩;obtain⟨b,e3,_⟩:=Y8r y1;refine Ok.step e3 ?_;cases b with
 |true=>
  refine Ok.bind (g:=gS) (Y9s hr1) fun y4 a4=>?_;exact fin _ _ (okS no no no (by simpa using a4.1) no no no pz ⟨fun h=>absurd h (by decide),fun _=>qD 1⟩ no) (a4.2.mono (by rw[wSk,Z0f];simp only[sm0];omega))
 |false=>
 obtain⟨b,e5,_⟩:=Z4j y1 [123];refine Ok.step e5 ?_;cases b with
 |true=>
  refine Ok.bind (g:=gS) (h.block y1 hr1 (by(try dsimp only at*);omega)) fun y6 a6=>?_;exact fin _ _ (okS no no no no a6.1 no no pz (Sa.n (by decide) (by decide)) no) (a6.2.mono (by rw[wSk];simp only[sm0];omega))
 |false=>
 obtain⟨b,y7,e7,a7⟩:=C0 y1 [59];refine Ok.step e7 ?_;cases b with
 |true=>exact fin _ _ (okS no no no no no no no pz (Sa.n (by decide) (by decide)) no) (a7.mono (by dsimp only[cond_true];rw[wSk];simp only[sm0];omega))
 |false=>
 obtain⟨b,y8,e8,a8⟩:=C0 y7 [105,102];refine Ok.step e8 ?_;have a8:=a7.trans a8;have l8:=a8.len;cases b with
 |true=>
  dsimp only[cond_true,cond_false]at a8 l8
  have hr8:=hr1.after a8;refine Ok.bind (g:=gS) (Z4o hr8) fun y9 a9=>?_;have l9:=a9.1.2.len;refine Ok.bind (g:=gS) (h.body y9.2 (hr8.after a9.1.2) (by(try dsimp only at*);omega)) fun y10 a10=>?_;have l10:=a10.2.len;obtain⟨b,y11,e11,a11⟩:=C0 y10.2 [101,108,115,101];refine Ok.step e11 ?_;have a11':=((a8.trans a9.1.2).trans a10.2).trans a11;have l11:=a11.len;cases b with
  |true=>
   refine Ok.bind (g:=gS) (h.body y11 (hr1.after a11') (by(try dsimp only at*);omega)) fun y12 a12=>?_;exact fin _ _ (okS a9.1.1 no no no a10.1 a12.1 no pz (Sa.a a9.2 (by decide)) no) ((a11'.trans a12.2).mono (by rw[wSk];simp only[sm0];dsimp only[cond_true];omega))
  |false=>exact fin _ _ (okS a9.1.1 no no no a10.1 no no pz (Sa.a a9.2 (by decide)) no) (a11'.mono (by rw[wSk];simp only[sm0];omega))
 |false=>
 obtain⟨b,y13,e13,a13⟩:=C0 y8 [119,104,105,108,101];refine Ok.step e13 ?_;have a13:=a8.trans a13;have l13:=a13.len;cases b with
 |true=>
  dsimp only[cond_true,cond_false]at a13 l13
  have hr13:=hr1.after a13;refine Ok.bind (g:=gS) (Z4o hr13) fun y14 a14=>?_;have l14:=a14.1.2.len;refine Ok.bind (g:=gS) (h.body y14.2 (hr13.after a14.1.2) (by(try dsimp only at*);omega)) fun y15 a15=>?_;exact fin _ _ (okS a14.1.1 no no no a15.1 no no pz (Sa.a a14.2 (by decide)) no) (((a13.trans a14.1.2).trans a15.2).mono (by rw[wSk];simp only[sm0];omega))
 |false=>
 obtain⟨b,y16,e16,a16⟩:=C0 y13 [100,111];refine Ok.step e16 ?_;have a16:=a13.trans a16;have l16:=a16.len;cases b with
 |true=>
  dsimp only[cond_true,cond_false]at a16 l16
  have hr16:=hr1.after a16;refine Ok.bind (g:=gS) (h.body y16 hr16 (by(try dsimp only at*);omega)) fun y17 a17=>?_;refine Ok.bind (g:=gS) (N0 y17.2 _) fun y18 a18=>?_;have a18':=(a16.trans a17.2).trans a18;refine Ok.bind (g:=gS) (Z4o (hr1.after a18')) fun y19 a19=>?_;refine Ok.bind (g:=gS) (N0 y19.2 _) fun y20 a20=>?_;exact fin _ _ (okS a19.1.1 no no no a17.1 no no pz (Sa.a a19.2 (by decide)) no) (((a18'.trans a19.1.2).trans a20).mono (by rw[wSk];simp only[sm0];omega))
 |false=>
 obtain⟨b,y21,e21,a21⟩:=C0 y16 [102,111,114];refine Ok.step e21 ?_;have a21:=a16.trans a21;have l21:=a21.len;cases b with
 |true=>
  dsimp only[cond_true,cond_false]at a21 l21
  refine Ok.bind (g:=gS) (N0 y21 _) fun y22 a22=>?_;have a22':=a21.trans a22;refine Ok.bind (g:=gS) (Z6m (hr1.after a22') _) fun y23 a23=>?_;have a23':=a22'.trans a23.2;refine Ok.bind (g:=gS) (Z6m (hr1.after a23') _) fun y24 a24=>?_;have a24':=a23'.trans a24.2;refine Ok.bind (g:=gS) (Z6m (hr1.after a24') _) fun y25 a25=>?_;have a25':=a24'.trans a25.2;have l25:=a25'.len;refine Ok.bind (g:=gS) (h.body y25.2 (hr1.after a25') (by(try dsimp only at*);omega)) fun y26 a26=>?_;exact fin _ _ (okS a23.1 a24.1 a25.1 no a26.1 no no pz (Sa.n (by decide) (by decide)) no) ((a25'.trans a26.2).mono (by rw[wSk];simp only[sm0];omega))
 |false=>
 obtain⟨b,y27,e27,a27⟩:=C0 y21 [115,119,105,116,99,104];refine Ok.step e27 ?_;have a27:=a21.trans a27;have l27:=a27.len;cases b with
 |true=>
  dsimp only[cond_true,cond_false]at a27 l27
  have hr27:=hr1.after a27;refine Ok.bind (g:=gS) (Z4o hr27) fun y28 a28=>?_;have l28:=a28.1.2.len;refine Ok.bind (g:=gS) (h.cases_ y28.2 (hr27.after a28.1.2) (by(try dsimp only at*);omega)) fun y29 a29=>?_;exact fin _ _ (okS a28.1.1 no no no no no (fun c hc=>(a29.1 c hc).1) pz (Sa.a a28.2 (by decide)) fun c hc=>(a29.1 c hc).2) (((a27.trans a28.1.2).trans a29.2).mono (by rw[wSk];simp only[sm0];omega))
 |false=>
  refine Ok.bind (g:=fun e:Y3×Z0×E5=>(e.1,{e.2.1 with depth:=qJ .i64 (e.2.1.depth-1)})) (X5f (hr1.after a27) p pz) fun y30 a30=>?_;exact fin _ _ a30.1 ((a27.trans a30.2).mono (by omega))
theorem rdS2:∀n,S2 n
 |0=>⟨fun r _ h=>by omega,fun r _ h=>by omega,fun r _ h=>by omega,fun r _ h=>by omega⟩
 |n+1=>⟨block_s (rdS2 n),cases_s (rdS2 n),stmt_s (rdS2 n),body_s (rdS2 n)⟩
theorem X6d{r:Z0}(hr:Rd r):Ok (E6 r) (PB r 2):=(rdS2 NN).block r hr (by have:=hr.len;unfold NN;omega)
theorem X5h{r:Z0}(hr:Rd r){p:D4}(hp:OkP p)(hw:wP p<=5000):Ok (Q2s r p) (fun x=>OkP x.2/\∃k,wP x.2=wP p+k/\1<=k/\Af r x.1 k):=by
 unfold Q2s;have hwp:wP p=sm wT p.Structs+sm wV p.Globals+sm wF p.Funcs:=rfl;have l1:=Q3l X3d p.Structs;have l2:=Q3l Y0q p.Globals;have l3:=Q3l X3e p.Funcs;obtain⟨q,eq,qz⟩:=Y1g hr;refine Ok.step eq ?_
 dsimp only[jn]
 have rest:Ok ((F3 r).bind fun y13=>exC y13 (fun y13=>(G7 y13.2).bind fun y14=>exC y14 (fun y14=>(U5 y14.2 ([40]:List UInt8)).bind fun y15=>bif !y15 then((L7 y14.2 (⟨q,y13.1,y14.1,[],[],false⟩:M7)).bind fun y16=>exC y16 (fun y16=>(L1 (qQ p.Globals+qQ ([y16.1]:List M7))).bind fun _=>some (qX (y16.2,{p with Globals:=p.Globals++([y16.1]:List M7)}))) (fun e9=>some (qK (e9.1,e9.2,p))))else((W2 y14.2).bind fun y17=>exC y17 (fun y17=>(E6 y17.2).bind fun y18=>exC y18 (fun y18=>(L1 (qQ p.Funcs+qQ ([{(⟨q,y13.1,y14.1,y17.1,[]⟩:Q1d)with Body:=y18.1}]:List Q1d))).bind fun _=>some (qX (y18.2,{p with Funcs:=p.Funcs++([{(⟨q,y13.1,y14.1,y17.1,[]⟩:Q1d)with Body:=y18.1}]:List Q1d)}))) (fun e11=>some (qK (e11.1,e11.2,p)))) (fun e10=>some (qK (e10.1,e10.2,p))))) (fun e12=>some (qK (e12.1,e12.2,p)))) (fun e13=>some (qK (e13.1,e13.2,p)))) (fun x=>OkP x.2/\∃k,wP x.2=wP p+k/\1<=k/\Af r x.1 k):=by
  refine Ok.bind (g:=fun e:Y3×Z0=>(e.1,e.2,p)) (Z2x hr) fun y13 a13=>?_;refine Ok.bind (g:=fun e:Y3×Z0=>(e.1,e.2,p)) (Z4t (hr.after a13.2)) fun y14 a14=>?_;have a134:=a13.2.trans a14.2.1;have hr14:=hr.after a134;obtain⟨b,e15,_⟩:=Z4j y14.2 [40];refine Ok.step e15 ?_;cases b with
  |false=>
   refine Ok.bind (g:=fun e:Y3×Z0=>(e.1,e.2,p)) (Y8a hr14 (v:=⟨q,y13.1,y14.1,[],[],false⟩) a13.1 a14.1 qz) fun y16 a16=>?_;have hv:wV y16.1=1+y16.1.Type_.Stars.toNat+y16.1.Dims.length+sm wE y16.1.Init:=rfl;rw[a16.2.1]at hv;refine Ok.step (B7 (by simp;omega)) ?_;refine Ok.ok ⟨⟨hp.s,?_,hp.f⟩,wV y16.1,?_,Y0q _,(a134.trans a16.2.2).mono (by dsimp only at hv⊢;omega)⟩
   . intro v hv
     rcases jQ.1 hv with hv|hv
     . exact hp.g v hv
     . have:v=y16.1:=by simpa using hv
       rw[this];exact a16.1
   . show sm wT p.Structs+sm wV (p.Globals++[y16.1])+sm wF p.Funcs=_;rw[Q2w,Z0f,sm0];omega
  |true=>
   refine Ok.bind (g:=fun e:Y3×Z0=>(e.1,e.2,p)) (X3s hr14) fun y17 a17=>?_;have a17':=a134.trans a17.2;refine Ok.bind (g:=fun e:Y3×Z0=>(e.1,e.2,p)) (X6d (hr.after a17')) fun y18 a18=>?_;refine Ok.step (B7 (by simp;omega)) ?_;have hf:wF (⟨q,y13.1,y14.1,y17.1,y18.1⟩:Q1d)=1+y13.1.Stars.toNat+sm wV y17.1+sm wS y18.1:=rfl;refine Ok.ok ⟨⟨hp.s,hp.g,?_⟩,wF (⟨q,y13.1,y14.1,y17.1,y18.1⟩:Q1d),?_,X3e _,(a17'.trans a18.2).mono (by omega)⟩
   . intro f hf
     rcases jQ.1 hf with hf|hf
     . exact hp.f f hf
     . have:f=⟨q,y13.1,y14.1,y17.1,y18.1⟩:=by simpa using hf
       rw[this];exact⟨a14.1,a13.1,a17.1,a18.1,qz⟩
   . show sm wT p.Structs+sm wV p.Globals+sm wF (p.Funcs++[(⟨q,y13.1,y14.1,y17.1,y18.1⟩:Q1d)])=_;rw[Q2w,Z0f,sm0];omega
 obtain⟨b,e2,_⟩:=Z4j r [115,116,114,117,99,116];refine Ok.step e2 ?_;cases b with
 |false=>exact rest
 |true=>
  obtain⟨b,e3⟩:=X1y r 2 [123];refine Ok.step e3 ?_;cases b with
  |false=>exact rest
  |true=>
   refine Ok.bind (g:=fun e:Y3×Z0=>(e.1,e.2,p)) (N0 r _) fun y4 a4=>?_;refine Ok.bind (g:=fun e:Y3×Z0=>(e.1,e.2,p)) (Z4t (hr.after a4)) fun y5 a5=>?_;have a45:=a4.trans a5.2.1;refine Ok.bind (g:=fun e:Y3×Z0=>(e.1,e.2,p)) (X3y (hr.after a45)) fun y6 a6=>?_;refine Ok.step (B7 (by simp;omega)) ?_;have hf:wT (⟨q,y5.1,y6.1⟩:Q3k)=1+sm wV y6.1:=rfl;refine Ok.ok ⟨⟨?_,hp.g,hp.f⟩,wT (⟨q,y5.1,y6.1⟩:Q3k),?_,X3d _,(a45.trans a6.2).mono (by omega)⟩
   . intro s hs
     rcases jQ.1 hs with hs|hs
     . exact hp.s s hs
     . have:s=⟨q,y5.1,y6.1⟩:=by simpa using hs
       rw[this];exact⟨a5.1,a6.1,qz⟩
   . show sm wT (p.Structs++[(⟨q,y5.1,y6.1⟩:Q3k)])+sm wV p.Globals+sm wF p.Funcs=_;rw[Q2w,Z0f,sm0];omega
theorem try_any{r:Z0}(hr:Rd r):∃z,Q9s r=some z/\∀x,z= .ok x->OkP x.1/\wP x.1<=5000:=by
 unfold Q9s;have lr:=hr.len
 refine Exists.elim (L5 (body:=(fun(x4,x5)=>(bif decide (0<(qQ x5.l:Int))then((Q2s x5 x4).bind fun y1=>exC y1 (fun y1=>some (Lp.go (y1.2,y1.1))) (fun e1=>some (Lp.ret (qK ((⟨[],[],[]⟩:D4),e1.1,e1.2.1)))))else(some (Lp.brk (x4,x5))):Option (Lp (D4×Z0) (Except (D4×Y3×Z0) (D4×Z0)))))) (n:=NN) (s:=((⟨[],[],[]⟩:D4),r))
  (fun s=>OkP s.1/\Af r s.2 (wP s.1)) (fun s=>s.2.l.length)
  (fun o=>match o with
   | .go _=>False
   | .brk s=>OkP s.1/\wP s.1<=5000
   | .ret z=>∃e,z=qK e) ⟨⟨no,no,no⟩,(Af.refl r).mono (qD 0)⟩ (Q6f (by dsimp only;omega)) ?_) ?_
 . rintro⟨x4,x5⟩ ⟨i1,i2⟩
   dsimp only at i1 i2⊢
   have li:=i2.len
   by_cases hl:0<x5.l.length
   . rw[c1 (dt (by omega))];obtain⟨z,ez,hz⟩:=X5h (hr.after i2) i1 (by omega);rw[ez,qV];cases z with
     |error e=>exact⟨_,rfl,_,rfl⟩
     |ok x=>
      obtain⟨h1,k,h2,h3,h4⟩:=hz;have:=h4.len;exact⟨_,rfl,⟨h1,(i2.trans h4).mono (by dsimp only;omega)⟩,by dsimp only;omega⟩
   . rw[c0 (df (by omega))];exact⟨_,rfl,i1,by dsimp only;omega⟩
 . rintro o ⟨ho,hp⟩;rw[ho,qV];cases o with
   |go _=>exact hp.elim
   |ret z=>
    obtain⟨e,rfl⟩:=hp;exact⟨_,rfl,fun x hx=>by cases hx⟩
   |brk s=>
    obtain⟨x4,x5⟩:=s;exact⟨_,rfl,fun x hx=>by cases hx;exact hp⟩
theorem Read_any(s:List UInt8)(hs:s.length<=4000):∃p q e,Z7k s=some (p,q,e)/\(e=0->OkP p/\wP p<=5000):=by
 obtain⟨⟨l,q,e⟩,ey,hy⟩:=X5q s (by omega);unfold Z7k;rw[ey,qV]
 dsimp only at hy⊢
 by_cases he:e=0
 . obtain⟨_,c1',c2,c3⟩:e=0/\l.length<=s.length/\(∀t∈l,Pn t.Pos/\Tk s.length t)/\Pn q:=by
    rcases hy with hy|hy
    . exact hy
    . exact absurd he hy
   have hr:Rd ⟨l,q,0⟩:=⟨fun t ht=>jH (c2 t ht).2.b (by omega),by dsimp only;omega,⟨Int.le_refl 0,(by decide:(0:Int)<=200)⟩,fun t ht=>(c2 t ht).1,c3,fun t ht=>(c2 t ht).2.o,fun t ht=>(c2 t ht).2.u⟩;obtain⟨z,ez,hz⟩:=try_any hr;rw[c0 (by rw[he];rfl),ez,qV];cases z with
   |ok x=>exact⟨_,_,_,rfl,fun _=>hz x rfl⟩
   |error x=>exact⟨_,_,_,rfl,fun _=>⟨⟨no,no,no⟩,by decide⟩⟩
 . rw[c1 (by simpa using he)];exact⟨_,_,_,rfl,fun _=>⟨⟨no,no,no⟩,by decide⟩⟩
section
def Z5e{α:Type}(l:List α)(p:α->Bool):Int:=match l.findIdx? p with
 |some k=>(k:Int)
 |none=> -1
theorem X4o{α:Type}(l:List α)(p:α->Bool): -1<=Z5e l p/\Z5e l p<l.length:=by
 unfold Z5e;cases h:l.findIdx? p with
 |none=>dsimp only;omega
 |some k=>
  obtain⟨hk,_⟩:=List.findIdx?_eq_some_iff_getElem.1 h
  dsimp only
  omega
theorem X2i{α:Type}{l:List α}{p:α->Bool}(h:0<=Z5e l p):∃x,idx l (Z5e l p)=some x/\p x=true:=by
 unfold Z5e at*;cases hf:l.findIdx? p with
 |none=>rw[hf]at h;dsimp only at h;omega
 |some k=>
  obtain⟨hk,hp,_⟩:=List.findIdx?_eq_some_iff_getElem.1 hf;exact⟨l[k],C1 hk,hp⟩
theorem Z7u{α:Type}{l:List α}{p:α->Bool}{body:Int->Option (Lp Int Int)}(hl:l.length<=1000000)
 (hs:∀k (h:k<l.length),body (k:Int)=some (bif p l[k]then .ret (k:Int)else .go (qJ .i64 ((k:Int)+1)))) (he:body (l.length:Int)=some (.brk (l.length:Int))):
 ((X5 body NN 0).bind fun o=>o.thn (fun _=>some (-1:Int)) (fun r=>some r))=some (Z5e l p):=by
 refine X5s l p (fun k=>(k:Int)) (by omega) hs he ?_;unfold Z5e;cases l.findIdx? p<;>rfl
theorem if1{l:List K4}(hl:l.length<=1000000)(n:List UInt8):Q8g l n=some (Z5e l fun k=>k.Type_.Kind==5&&decide (k.Type_.Name=n)):=by
 unfold Q8g;refine Z7u hl (fun k hk=>?_) (by rw[c0 (dge _)]);rw[c1 (dlt hk),C1 hk,qV];unfold Q9k;rw[qV];cases(l[k].Type_.Kind==5&&decide (l[k].Type_.Name=n))<;>rfl
theorem if2{l:List K4}(hl:l.length<=1000000)(n:K4):Q5e l n=some (Z5e l fun k=>((k.Type_.Kind==n.Type_.Kind)&&(k.Type_.Elem==n.Type_.Elem))&&(k.Type_.Len==n.Type_.Len)&&(n.Type_.Kind !=5)):=by
 unfold Q5e;refine Z7u hl (fun k hk=>?_) (by rw[c0 (dge _)]);rw[c1 (dlt hk),C1 hk,qV];unfold Z1m;rw[qV];cases(((l[k].Type_.Kind==n.Type_.Kind)&&(l[k].Type_.Elem==n.Type_.Elem))&&(l[k].Type_.Len==n.Type_.Len)&&(n.Type_.Kind !=5))<;>rfl
theorem if3{l:List K9}(hl:l.length<=1000000):Q5d l=some (Z5e l fun k=>decide (k.Name=[])):=by
 unfold Q5d;refine Z7u hl (fun k hk=>?_) (by rw[c0 (dge _)]);rw[c1 (dlt hk),C1 hk,qV];unfold Z1q;rw[qV];cases(decide (l[k].Name=[]))<;>rfl
theorem Y1v(t:Z7)(n:Int):I3 t n=some (decide (0<=n/\n<t.list.length)):=by
 unfold I3
 congr 1
 by_cases h1:0<=n<;>by_cases h2:n<t.list.length<;>simp[h1,h2]
theorem J2{α:Type}{l:List α}{n:Int}(h:0<=n/\n<l.length):∃x,idx l n=some x/\x∈l:=by
 obtain⟨k,rfl⟩:=jR h.1;have hk:k<l.length:=by omega
 exact⟨l[k],C1 hk,jT hk⟩
theorem X4m{α:Type}{l s:List α}{n:Int}{x:α}(h:idx l n=some x):idx (l++s) n=some x:=by
 obtain⟨h0,h1,h2⟩:=Q0i h;unfold idx;rw[if_pos h0,List.getElem?_append_left (by omega),h2]
structure KOk(l:List K4)(k:K4):Prop where
 sz:0<=k.size/\k.size<=32768
 al:0<=k.align/\k.align<=32768
 sa:k.size≠0->1<=k.align
 op:k.open_=true->k.size=0
 arr:k.Type_.Kind=4->1<=k.Type_.Len/\∃e,idx l k.Type_.Elem=some e/\1<=e.size/\k.size=k.Type_.Len*e.size
 fl:k.Type_.Fields.length<=5000
structure Tab(t:Z7):Prop where
 l3:3<=t.list.length
 l4:t.list.length<=400
 k:∀k∈t.list,KOk t.list k
def Gr(t t':Z7):Prop:=∃s,t'.list=t.list++s
theorem Gr.refl(t:Z7):Gr t t:=⟨[],by simp⟩
theorem Gr.trans{a b c:Z7}(h:Gr a b)(g:Gr b c):Gr a c:=by
 obtain⟨s,hs⟩:=h;obtain⟨r,hr⟩:=g;exact⟨s++r,by rw[hr,hs,List.append_assoc]⟩
theorem Gr.len{t t':Z7}(h:Gr t t'):t.list.length<=t'.list.length:=by
 obtain⟨s,hs⟩:=h;rw[hs,qW];omega
theorem Gr.idx{t t':Z7}(h:Gr t t'){n:Int}{x:K4}(hx:idx t.list n=some x):idx t'.list n=some x:=by
 obtain⟨s,hs⟩:=h;rw[hs];exact X4m hx
theorem KOk.app{l s:List K4}{k:K4}(h:KOk l k):KOk (l++s) k:=⟨h.sz,h.al,h.sa,h.op,fun e=>by
 obtain⟨h1,x,hx,h2⟩:=h.arr e
 exact⟨h1,x,X4m hx,h2⟩,h.fl⟩
theorem Y5j{t:Z7}(h:Tab t)(n:List UInt8):Q1q t n=some (Z5e t.list fun k=>k.Type_.Kind==5&&decide (k.Type_.Name=n)):=by
 unfold Q1q;exact bnd (if1 (by have:=h.l4;omega) n) rfl
def Pt(t:Z7)(P:Int->Z7->Prop)(y:Option (Int×Int×Z7)):Prop:=∃n e t',y=some (n,e,t')/\Tab t'/\Gr t t'/\(e=0->0<=n/\n<t'.list.length/\P n t')
theorem X0c{t:Z7}(h:Tab t){k:K4}(hk:KOk t.list k):Pt t (fun n t'=>∃x,idx t'.list n=some x/\x.Type_.Kind=k.Type_.Kind/\(k.Type_.Kind≠5->x.Type_.Elem=k.Type_.Elem/\x.Type_.Len=k.Type_.Len)) (Q5h t k):=by
 have l4:=h.l4;unfold Q5h;rw[if2 (by omega),qV];have hf:=X4o t.list (fun x=>((x.Type_.Kind==k.Type_.Kind)&&(x.Type_.Elem==k.Type_.Elem))&&(x.Type_.Len==k.Type_.Len)&&(k.Type_.Kind !=5));have hh:=X2i (l:=t.list) (p:=fun x=>((x.Type_.Kind==k.Type_.Kind)&&(x.Type_.Elem==k.Type_.Elem))&&(x.Type_.Len==k.Type_.Len)&&(k.Type_.Kind !=5))
 generalize Z5e t.list _=n at hf hh⊢
 by_cases h0:0<=n
 . rw[c1 (dt h0)];obtain⟨x,hx,hp⟩:=hh h0
   simp only[Bool.and_eq_true,beq_iff_eq]at hp
   exact⟨n,0,t,rfl,h,Gr.refl t,fun _=>⟨h0,hf.2,x,hx,hp.1.1.1,fun _=>⟨hp.1.1.2,hp.1.2⟩⟩⟩
 . rw[c0 (df h0)]
   by_cases h1:(400:Int)<=t.list.length
   . rw[c1 (dt h1)];exact⟨0,8,t,rfl,h,Gr.refl t,fun e=>by cases e⟩
   . rw[c0 (df h1),B7 (by simp;omega),qV];refine⟨_,_,_,rfl,⟨by simp;have:=h.l3;omega,by simp;omega,fun x hx=>?_⟩,⟨[k],rfl⟩,fun _=>?_⟩
     . rcases jQ.1 hx with hx|hx
       . exact(h.k x hx).app
       . rw[kQ.1 hx];exact hk.app
     . have e:qJ .i64 (((t.list++[k]).length:Int)-1)=(t.list.length:Int):=by rw[qW,w64 (by simp;omega)];simp
       refine⟨by rw[e];omega,by rw[e];simp;omega,k,?_,rfl,fun _=>⟨rfl,rfl⟩⟩
       dsimp only
       rw[e,C1 (by simp)]
       simp
theorem X4j{t:Z7}(h:Tab t)(n:Int):Pt t (fun _ _=>True) (Q5i t n):=by
 unfold Q5i;rw[Y1v,qV]
 by_cases h0:0<=n/\n<t.list.length
 . rw[dt h0];obtain⟨m,e,t',hy,h1,h2,h3⟩:=X0c h (k:=⟨⟨3,n,0,[],[]⟩,4,4,false⟩) ⟨(by decide:(0:Int)<=4/\(4:Int)<=32768),(by decide:(0:Int)<=4/\(4:Int)<=32768),fun _=>(by decide:(1:Int)<=4),fun e=>(by cases e),fun e=>(by cases e),by simp⟩;exact⟨m,e,t',bnd hy rfl,h1,h2,fun he=>⟨(h3 he).1,(h3 he).2.1,trivial⟩⟩
 . rw[df h0];exact⟨0,4,t,rfl,h,Gr.refl t,fun e=>by cases e⟩
theorem X6i{t:Z7}(h:Tab t)(n m:Int):Pt t (fun _ _=>True) (Q8n t n m):=by
 unfold Q8n;rw[Y1v,qV]
 by_cases h0:0<=n/\n<t.list.length
 . rw[dt h0];obtain⟨x,hx,hxm⟩:=J2 h0;have kx:=h.k x hxm;have hz:=kx.sz
   simp only[Bool.not_true,cond_false,hx,qV]
   by_cases h1:x.size=0
   . rw[c1 (by rw[h1];rfl)];exact⟨0,5,t,rfl,h,Gr.refl t,fun e=>by cases e⟩
   . rw[c0 (by simpa using h1)]
     by_cases h2:m<1
     . rw[c1 (dt h2)];exact⟨0,1,t,rfl,h,Gr.refl t,fun e=>by cases e⟩
     . rw[c0 (df h2),show nz x.size=some () by unfold nz;rw[if_neg h1],qV];have hdiv:Int.tdiv 32768 x.size=32768/x.size:=Int.tdiv_eq_ediv_of_nonneg (by decide);have hd0:0<=(32768:Int)/x.size:=Int.ediv_nonneg (by decide) (by omega);have hd1:(32768:Int)/x.size<=32768:=Int.ediv_le_self _ (by decide);rw[hdiv,w64 (by omega)]
       by_cases h3:(32768:Int)/x.size<m
       . rw[c1 (dt h3)];exact⟨0,2,t,rfl,h,Gr.refl t,fun e=>by cases e⟩
       . rw[c0 (df h3)]
         have hmul:m*x.size<=32768:=by
          have h4:m*x.size<=(32768/x.size)*x.size:=Int.mul_le_mul_of_nonneg_right (by omega) (by omega);have h5:=Int.ediv_mul_le (32768:Int) h1;omega
         have hmul0:1<=m*x.size:=by
          have:=Int.mul_le_mul (show(1:Int)<=m by omega) (show(1:Int)<=x.size by omega) (by decide) (by omega);omega
         rw[w64 (by omega)];obtain⟨m',e,t',hy,g1,g2,g3⟩:=X0c h (k:=⟨⟨4,n,m,[],[]⟩,m*x.size,x.align,false⟩) ⟨by dsimp only;omega,kx.al,fun _=>kx.sa h1,fun e=>(by cases e),fun _=>⟨by dsimp only;omega,x,hx,by omega,rfl⟩,by simp⟩;exact⟨m',e,t',bnd hy rfl,g1,g2,fun he=>⟨(g3 he).1,(g3 he).2.1,trivial⟩⟩
 . rw[df h0];exact⟨0,4,t,rfl,h,Gr.refl t,fun e=>by cases e⟩
theorem open_any{t:Z7}(h:Tab t)(n:List UInt8):∃m e t',Q9v t n=some (m,e,t')/\Tab t':=by
 unfold Q9v
 by_cases h0:n=[]
 . rw[c1 (dt h0)];exact⟨_,_,_,rfl,h⟩
 . rw[c0 (df h0),Y5j h,qV]
   by_cases h1:0<=Z5e t.list fun k=>k.Type_.Kind==5&&decide (k.Type_.Name=n)
   . rw[c1 (dt h1)];exact⟨_,_,_,rfl,h⟩
   . rw[c0 (df h1)];obtain⟨m',e,t',hy,g1,g2,g3⟩:=X0c h (k:=⟨⟨5,0,0,n,[]⟩,0,0,true⟩) ⟨(by decide:(0:Int)<=0/\(0:Int)<=32768),(by decide:(0:Int)<=0/\(0:Int)<=32768),fun e=>absurd rfl e,fun _=>rfl,fun e=>(by cases e),by simp⟩;exact⟨m',e,t',bnd hy rfl,g1⟩
theorem find_any{t:Z7}(h:Tab t)(n:List UInt8):∃m e,Q9w t n=some (m,e):=by
 unfold Q9w;rw[Y5j h,qV]
 by_cases h1:(Z5e t.list fun k=>k.Type_.Kind==5&&decide (k.Type_.Name=n))<0
 . rw[c1 (dt h1)];exact⟨_,_,rfl⟩
 . rw[c0 (df h1)];exact⟨_,_,rfl⟩
def szT(t:Z7)(n:Int):Int:=match idx t.list n with
 |some x=>x.size
 |none=>0
theorem Z7t{α:Type}{l:List α}{n:Int}(h:¬(0<=n/\n<l.length)):idx l n=none:=by
 cases e:idx l n with
 |none=>rfl
 |some x=>exact absurd ⟨(Q0i e).1,(Q0i e).2.1⟩ h
theorem Q6s(t:Z7)(n:Int):K2 t n=some (szT t n):=by
 unfold K2 szT;rw[Y1v,qV]
 by_cases h0:0<=n/\n<t.list.length
 . obtain⟨x,hx,_⟩:=J2 h0;rw[dt h0,hx]
   rfl
 . rw[df h0,Z7t h0]
   rfl
def alT(t:Z7)(n:Int):Int:=match idx t.list n with
 |some x=>x.align
 |none=>0
theorem X2x(t:Z7)(n:Int):Q1r t n=some (alT t n):=by
 unfold Q1r alT;rw[Y1v,qV]
 by_cases h0:0<=n/\n<t.list.length
 . obtain⟨x,hx,_⟩:=J2 h0;rw[dt h0,hx]
   rfl
 . rw[df h0,Z7t h0]
   rfl
theorem X3k{t:Z7}(h:Tab t)(n:Int):0<=szT t n/\szT t n<=32768:=by
 unfold szT
 by_cases h0:0<=n/\n<t.list.length
 . obtain⟨x,hx,hm⟩:=J2 h0;rw[hx];exact(h.k x hm).sz
 . rw[Z7t h0];decide
theorem alT_ok{t:Z7}(h:Tab t)(n:Int):0<=alT t n/\alT t n<=32768/\(szT t n≠0->1<=alT t n):=by
 unfold alT szT
 by_cases h0:0<=n/\n<t.list.length
 . obtain⟨x,hx,hm⟩:=J2 h0;rw[hx];exact⟨(h.k x hm).al.1,(h.k x hm).al.2,(h.k x hm).sa⟩
 . rw[Z7t h0];decide
theorem Gr.sz{t t':Z7}(h:Gr t t'){n:Int}(hn:0<=n/\n<t.list.length):szT t' n=szT t n:=by
 obtain⟨x,hx,_⟩:=J2 hn;unfold szT;rw[h.idx hx,hx]
theorem X2n{l:List K9}(h:l.length<=5000):Z1i l=some l:=by
 unfold Z1i;rw[B7 (by simp;omega)]
 rfl
def tyT(t:Z7)(n:Int):Q8v×Int:=match idx t.list n with
 |some x=>(x.Type_,0)
 |none=>(⟨0,0,0,[],[]⟩,4)
theorem Z6k{t:Z7}(h:Tab t)(n:Int):C3 t n=some (tyT t n):=by
 unfold C3 tyT;rw[Y1v,qV]
 by_cases h0:0<=n/\n<t.list.length
 . obtain⟨x,hx,hm⟩:=J2 h0;rw[dt h0,c0 (b:=!true) rfl,hx];refine bnd (x:=x) rfl ?_;exact bnd (X2n (h.k x hm).fl) rfl
 . rw[df h0,Z7t h0]
   rfl
theorem Z4d(t:Z7)(n:Int):∃b,M0 t n=some b:=by
 unfold M0;rw[Y1v,qV]
 by_cases h0:0<=n/\n<t.list.length
 . obtain⟨x,hx,hm⟩:=J2 h0;rw[dt h0,hx];exact⟨_,rfl⟩
 . rw[df h0];exact⟨_,rfl⟩
theorem X5t{t:Z7}(h:Tab t)(n:Int)(nm:List UInt8):∃f e,Q4r t n nm=some (f,e):=by
 unfold Q4r;rw[Y1v,qV]
 by_cases h0:0<=n/\n<t.list.length
 . obtain⟨x,hx,hm⟩:=J2 h0;rw[dt h0]
   simp only[Bool.not_true,cond_false,hx,qV]
   cases x.Type_.Kind !=5 with
   |true=>exact⟨_,_,rfl⟩
   |false=>
    have hfl:=(h.k x hm).fl;refine Exists.elim (L5 (body:=fun(x1:Int)=>(bif decide (x1<(qQ x.Type_.Fields:Int))then((idx x.Type_.Fields x1).bind fun u3=>bif decide (u3.Name=nm)then(some (Lp.ret (u3,(0:Int))))else(some (Lp.go (qJ .i64 (x1+1)))))else(some (Lp.brk x1)):Option (Lp (Int) (K9×Int)))) (n:=NN) (s:=0) (fun s=>0<=s/\s<=x.Type_.Fields.length) (fun s=>x.Type_.Fields.length-s.toNat) (fun o=>(∃s,o= .brk s)\/∃r,o= .ret r) ⟨by omega,by omega⟩ (Q6f (by omega)) ?_) ?_
    . rintro s ⟨s0,s1⟩
      by_cases hs:s<x.Type_.Fields.length
      . rw[c1 (dt hs)];obtain⟨f,hf,_⟩:=J2 ⟨s0,hs⟩;rw[hf,qV];cases decide (f.Name=nm)with
        |true=>exact⟨_,rfl,.inr ⟨_,rfl⟩⟩
        |false=>exact⟨_,rfl,⟨by rw[w64 (by omega)];omega,by rw[w64 (by omega)];omega⟩,by rw[w64 (by omega)];omega⟩
      . rw[c0 (df hs)];exact⟨_,rfl,.inl ⟨_,rfl⟩⟩
    . rintro o ⟨ho,hp⟩;rw[c0 rfl,ho,qV]
      rcases hp with⟨s,rfl⟩|⟨⟨f,e⟩,rfl⟩
      . exact⟨_,_,rfl⟩
      . exact⟨f,e,rfl⟩
 . rw[df h0];exact⟨_,_,rfl⟩
def Er(r:Z4):Prop:=Pn r.pos/\r.e≠0
def Ep(r:Z4×Q0):Prop:=Er r.1
def Og{E A:Type}(q:E->Prop)(y:Option (Except E A))(p:A->Prop):Prop:=∃z,y=some z/\match z with
 | .error e=>q e
 | .ok x=>p x
theorem Og.ok{E A:Type}{q:E->Prop}{x:A}{p:A->Prop}(h:p x):Og q (some (qX x)) p:=⟨_,rfl,h⟩
theorem Og.err{E A:Type}{q:E->Prop}{e:E}{p:A->Prop}(h:q e):Og q (some (qK (α:=A) e)) p:=⟨_,rfl,h⟩
theorem Og.mono{E A:Type}{q:E->Prop}{y:Option (Except E A)}{p r:A->Prop}(h:Og q y p)(hp:∀x,p x->r x):Og q y r:=by
 obtain⟨z,e,hz⟩:=h;refine⟨z,e,?_⟩;cases z with
 |error e=>exact hz
 |ok x=>exact hp x hz
theorem Og.bind{E E' A B:Type}{q:E->Prop}{q':E'->Prop}{y:Option (Except E A)}{p:A->Prop}{f:A->Option (Except E' B)}{k:E->Option (Except E' B)}{r:B->Prop}(h:Og q y p)(hf:∀x,p x->Og q' (f x) r)(hk:∀e,q e->Og q' (k e) r):Og q' (y.bind fun z=>exC z f k) r:=by
 obtain⟨z,ez,hz⟩:=h;rw[ez,qV];cases z with
 |error e=>exact hk e hz
 |ok x=>exact hf x hz
theorem Og.step{E A B:Type}{q:E->Prop}{m:Option B}{x:B}{f:B->Option (Except E A)}{p:A->Prop}(h:m=some x)(k:Og q (f x) p):Og q (m.bind f) p:=by subst h;exact k
theorem Rn.bindG{E A S R:Type}{q:E->Prop}{y:Option (Except E A)}{p:A->Prop}{f:A->Option (Lp S R)}{k:E->Option (Lp S R)}{P:Lp S R->Prop}(h:Og q y p)(hf:∀x,p x->Rn (f x) P)(hk:∀e,q e->Rn (k e) P):Rn (y.bind fun z=>exC z f k) P:=by
 obtain⟨z,ez,hz⟩:=h;rw[ez,qV];cases z with
 |error x=>exact hk x hz
 |ok x=>exact hf x hz
def NxG{S R E A:Type}(I:S->Prop)(μ:S->Nat)(s:S)(f:Lp S R->Option (Except E A))(q:E->Prop)(p:A->Prop):Lp S R->Prop
 | .go s'=>I s'/\μ s'<μ s
 | .brk s'=>Og q (f (.brk s')) p
 | .ret r=>Og q (f (.ret r)) p
theorem Og.loop{S R E A:Type}{body:S->Option (Lp S R)}{f:Lp S R->Option (Except E A)}{q:E->Prop}{p:A->Prop}{s:S}(I:S->Prop)(μ:S->Nat)(hI:I s)(hn:μ s<2000000)(hs:∀s,I s->Rn (body s) (NxG I μ s f q p)):Og q ((X5 body NN s).bind f) p:=by
 obtain⟨o,ho,hp⟩:=L5 I μ (fun o=>Og q (f o) p) hI (Q6f (by omega)) (fun s h=>by
  obtain⟨z,e,hz⟩:=hs s h;exact⟨z,e,by cases z<;>exact hz⟩)
 exact Og.step ho hp
theorem X0o{p:Pos}{k:Int}(hp:Pn p)(hk:k≠0):Og Er (X0 p k) (fun _=>False):=Og.err ⟨hp,hk⟩
theorem must_g{p:Pos}{k:Int}(hp:Pn p):Og Er (R8 p k) (fun _=>k=0):=by
 unfold R8
 by_cases h:k=0
 . rw[c0 (by rw[h];rfl)];exact Og.ok h
 . rw[c1 (by simpa using h)];exact Og.bind (X0o hp h) (fun _ h=>h.elim) (fun e he=>Og.err he)
/-! Structs. -/
theorem if4{l:List K9}(hl:l.length<=1000000)(t:Z7):Q5c l t=some (Z5e l fun f=>!decide (0<=f.Type_/\f.Type_<t.list.length)):=by
 unfold Q5c;refine Z7u hl (fun k hk=>?_) (by rw[c0 (dge _)]);rw[c1 (dlt hk),C1 hk,qV];unfold Z1p;rw[Y1v,qV,qV];cases decide (0<=l[k].Type_/\l[k].Type_<t.list.length)<;>rfl
theorem if5{l:List K9}(hl:l.length<=1000000)(t:Z7):Q5b l t=some (Z5e l fun f=>szT t f.Type_==0):=by
 unfold Q5b;refine Z7u hl (fun k hk=>?_) (by rw[c0 (dge _)]);rw[c1 (dlt hk),C1 hk,qV];unfold Z1o;rw[Q6s,qV,qV];cases(szT t l[k].Type_==0)<;>rfl
theorem if6{l:List K9}(hl:l.length<=1000000)(n:K9):Q5a l n=some (Z5e l fun f=>decide (f.Name=n.Name)):=by
 unfold Q5a;refine Z7u hl (fun k hk=>?_) (by rw[c0 (dge _)]);rw[c1 (dlt hk),C1 hk,qV];unfold Z1n;rw[qV];cases(decide (l[k].Name=n.Name))<;>rfl
theorem X5u{α:Type}{l:List α}{p:α->Bool}(h:¬0<=Z5e l p):∀x∈l,p x=false:=by
 unfold Z5e at h;cases e:l.findIdx? p with
 |none=>
  rw[List.findIdx?_eq_none_iff]at e;exact e
 |some k=>rw[e]at h;exact absurd (Int.natCast_nonneg k) h
theorem may_any(t:Z7){l:List K9}(hl:l.length<=5000):∃e,Z1a t l=some e/\(e=0->l≠[]/\∀f∈l,szT t f.Type_≠0):=by
 unfold Z1a
 by_cases h0:l=[]
 . rw[c1 (by rw[h0];rfl)];exact⟨1,rfl,fun e=>by cases e⟩
 . have hn:((l.length:Int)==0)=false:=beq_eq_false_iff_ne.2 (by
    intro e;exact h0 (List.length_eq_zero_iff.1 (by omega)))
   rw[c0 hn];unfold Q7z;rw[if3 (by omega),qV,qV]
   by_cases h1:0<=Z5e l fun k=>decide (k.Name=[])
   . rw[c1 (dt h1)];exact⟨1,rfl,fun e=>by cases e⟩
   rw[c0 (df h1)];unfold Q5r;rw[if4 (by omega),qV,qV]
   by_cases h2:0<=Z5e l fun f=>!decide (0<=f.Type_/\f.Type_<t.list.length)
   . rw[c1 (dt h2)];exact⟨4,rfl,fun e=>by cases e⟩
   rw[c0 (df h2)];unfold Q5q;rw[if5 (by omega),qV,qV]
   by_cases h3:0<=Z5e l fun f=>szT t f.Type_==0
   . rw[c1 (dt h3)];exact⟨5,rfl,fun e=>by cases e⟩
   rw[c0 (df h3)];have hz:l≠[]/\∀f∈l,szT t f.Type_≠0:=⟨h0,fun f hf=>by simpa using X5u h3 f hf⟩;refine Exists.elim (L5 (body:=fun(x1:Int)=>(bif decide (x1<(qQ l:Int))then((idx l x1).bind fun u1=>(sub l 0 x1).bind fun u2=>(Q1h u2 u1).bind fun y4=>bif y4 then(some (Lp.ret (6:Int)))else(some (Lp.go (qJ .i64 (x1+1)))))else(some (Lp.brk x1)):Option (Lp (Int) (Int)))) (n:=NN) (s:=0) (fun s=>0<=s/\s<=l.length) (fun s=>l.length-s.toNat) (fun o=>(∃s,o= .brk s)\/o= .ret 6) ⟨by omega,by omega⟩ (Q6f (by omega)) ?_) ?_
   . rintro s ⟨s0,s1⟩
     by_cases hs:s<l.length
     . rw[c1 (dt hs)];obtain⟨f,hf,_⟩:=J2 ⟨s0,hs⟩;obtain⟨k,rfl⟩:=jR s0;rw[hf,qV,show sub l 0 (k:Int)=some (l.take k) by unfold sub;rw[if_pos (by omega)];simp,qV];unfold Q1h;rw[if6 (by rw[qE];omega),qV,qV];cases decide (0<=Z5e (l.take k) fun g=>decide (g.Name=f.Name))with
       |true=>exact⟨_,rfl,.inr rfl⟩
       |false=>exact⟨_,rfl,⟨by rw[w64 (by omega)];omega,by rw[w64 (by omega)];omega⟩,by rw[w64 (by omega)];omega⟩
     . rw[c0 (df hs)];exact⟨_,rfl,.inl ⟨_,rfl⟩⟩
   . rintro o ⟨ho,hp⟩;rw[ho,qV]
     rcases hp with⟨s,rfl⟩|rfl
     . exact⟨0,rfl,fun _=>hz⟩
     . exact⟨6,rfl,fun e=>by cases e⟩
theorem up_any{x a:Int}(hx:0<=x/\x<=100000)(ha:1<=a/\a<=32768):∃y,Z8u x a=some y/\x<=y/\y<x+a:=by
 unfold Z8u;rw[show nz a=some () by unfold nz;rw[if_neg (by omega)],qV,w64 (x:=x+a) (by omega),w64 (x:=x+a-1) (by omega),Int.tdiv_eq_ediv_of_nonneg (by omega)];have h1:=Int.ediv_mul_le (x+a-1) (show a≠0 by omega);have h2:=Int.lt_ediv_add_one_mul_self (x+a-1) (show 0<a by omega);have h3:((x+a-1)/a+1)*a=(x+a-1)/a*a+a:=by rw[Int.add_mul];omega
 have h4:0<=(x+a-1)/a:=Int.ediv_nonneg (by omega) (by omega);have h5:(x+a-1)/a<=x+a-1:=Int.ediv_le_self _ (by omega);rw[w64 (x:=(x+a-1)/a) (by omega),w64 (by omega)];exact⟨_,rfl,by omega,by omega⟩
theorem Y6m{α:Type}{l:List α}{n m:Int}{x:α}(hn:0<=n):idx (qP l (Int.toNat n) x) m=if m=n/\n<l.length then some x else idx l m:=by
 unfold idx
 by_cases h0:0<=m
 . rw[if_pos h0,if_pos h0,List.getElem?_set]
   by_cases e:n.toNat=m.toNat
   . have e2:m=n:=by omega
     subst e2;rw[if_pos e]
     by_cases hl:m<l.length
     . rw[if_pos (by omega),if_pos ⟨rfl,hl⟩]
     . rw[if_neg (by omega),if_neg (fun h=>hl h.2)];exact(List.getElem?_eq_none (by omega)).symm
   . rw[if_neg e,if_neg (fun h=>e (by rw[h.1]))]
 . rw[if_neg h0,if_neg h0,if_neg (fun h=>h0 (by omega))]
theorem Y4j{α:Type}{l:List α}{n:Nat}{x y:α}(h:y∈qP l n x):y∈l\/y=x:=List.mem_or_eq_of_mem_set h
theorem Tab.close{t:Z7}(h:Tab t){n:Int}{u:K4}(hn:0<=n/\n<t.list.length)(hu:idx t.list n=some u)(hk:u.Type_.Kind=5)(ho:u.size=0){v:K4}(hv:KOk t.list v)(hv5:v.Type_.Kind=5):Tab ⟨qP t.list n.toNat v⟩:=by
 have keep:∀x,KOk t.list x->KOk (qP t.list n.toNat v) x:=fun x hx=>⟨hx.sz,hx.al,hx.sa,hx.op,fun e=>by
  obtain⟨h1,y,hy,h2,h3⟩:=hx.arr e;refine⟨h1,y,?_,h2,h3⟩;rw[Y6m hn.1];rw[if_neg]
  . exact hy
  . rintro⟨e1,_⟩;rw[e1,hu]at hy;cases hy;omega,hx.fl⟩
 refine⟨by simpa using h.l3,by simpa using h.l4,fun x hx=>?_⟩
 rcases Y4j hx with hx|rfl
 . exact keep x (h.k x hx)
 . exact keep _ hv
theorem X3l{t:Z7}(h:Tab t)(nm:List UInt8){l:List K9}(hl:l.length<=5000):∃n e t',Q6w t nm l=some (n,e,t')/\Tab t':=by
 have l4:=h.l4;unfold Q6w;rw[Y5j h,qV];have hf:=X4o t.list (fun k=>k.Type_.Kind==5&&decide (k.Type_.Name=nm));have hh:=X2i (l:=t.list) (p:=fun k=>k.Type_.Kind==5&&decide (k.Type_.Name=nm))
 generalize Z5e t.list _=n at hf hh⊢
 by_cases h0:n<0
 . rw[c1 (dt h0)];exact⟨_,_,_,rfl,h⟩
 rw[c0 (df h0)];obtain⟨u,hu,hp⟩:=hh (by omega)
 simp only[Bool.and_eq_true,beq_iff_eq]at hp
 have hum:u∈t.list:=by
  obtain⟨x,hx,hm⟩:=J2 (l:=t.list) (n:=n) ⟨by omega,hf.2⟩;rw[hu]at hx;cases hx;exact hm
 rw[hu,qV];cases hop:u.open_ with
 |false=>exact⟨_,_,_,rfl,h⟩
 |true=>
 rw[c0 (b:=!true) rfl];have husz:=(h.k u hum).op hop;obtain⟨e,he,hz⟩:=may_any t hl;rw[he,qV]
 by_cases h1:e=0
 case neg=>rw[c1 (by simpa using h1)];exact⟨_,_,_,rfl,h⟩
 rw[c0 (by rw[h1];rfl),X2n hl,qV];have hz:=(hz h1).2
 refine Exists.elim (L5 (body:=fun(x1,x2,x3,x4)=>(bif decide (x2<(qQ l:Int))then((idx x1 x2).bind fun u2=>(idx x1 x2).bind fun u3=>(Q3x u3 x4 t x3).bind fun y4=>bif !y4.1 then(some (Lp.ret ((0:Int),(2:Int),t)))else(some (Lp.go (qP x1 (Int.toNat x2) y4.2.1,qJ .i64 (x2+1),y4.2.2.2,y4.2.2.1))))else(some (Lp.brk (x1,x2,x3,x4))):Option (Lp ((List K9)×Int×Int×Int) (Int×Int×Z7)))) (n:=NN) (s:=(l,(0:Int),(1:Int),(0:Int)))
  (fun s=>s.1.length=l.length/\(∀f∈s.1,szT t f.Type_≠0)/\(0<=s.2.1/\s.2.1<=l.length)/\(1<=s.2.2.1/\s.2.2.1<=32768)/\(0<=s.2.2.2/\s.2.2.2<=32768)) (fun s=>l.length-s.2.1.toNat)
  (fun o=>(∃s,o= .brk s/\s.1.length=l.length/\(1<=s.2.2.1/\s.2.2.1<=32768)/\(0<=s.2.2.2/\s.2.2.2<=32768))\/o= .ret (0,2,t)) ⟨rfl,hz,by dsimp only;omega,(by decide:(1:Int)<=1/\(1:Int)<=32768),(by decide:(0:Int)<=0/\(0:Int)<=32768)⟩ (Q6f (by dsimp only;omega)) ?_) ?_
 . rintro⟨x1,x2,x3,x4⟩ ⟨i1,i2,i3,i4,i5⟩
   dsimp only at i1 i2 i3 i4 i5⊢
   by_cases hs:x2<l.length
   . rw[c1 (dt hs)];obtain⟨f,hf2,hfm⟩:=J2 (l:=x1) (n:=x2) ⟨i3.1,by rw[i1];exact hs⟩;rw[hf2,qV,qV];have hal:=alT_ok h f.Type_;have hsz:=X3k h f.Type_;have hne:=i2 f hfm;obtain⟨y,hy,hy1,hy2⟩:=up_any (x:=x4) (a:=alT t f.Type_) (by omega) ⟨hal.2.2 hne,hal.2.1⟩;unfold Q3x;rw[X2x,qV,hy,qV,Q6s,qV,qV,qV]
     dsimp only
     rw[w64 (x:=y+szT t f.Type_) (by omega)]
     by_cases hb:y+szT t f.Type_<=32768
     . rw[dt hb];refine⟨_,rfl,⟨by simpa using i1,?_,by dsimp only;rw[w64 (by omega)];omega,by dsimp only;omega,by dsimp only;omega⟩,by dsimp only;rw[w64 (by omega)];omega⟩;intro g hg
       rcases Y4j hg with hg|rfl
       . exact i2 g hg
       . exact hne
     . rw[df hb];exact⟨_,rfl,.inr rfl⟩
   . rw[c0 (df hs)];exact⟨_,rfl,.inl ⟨_,rfl,i1,i4,i5⟩⟩
 . rintro o ⟨ho,hp2⟩;rw[ho,qV]
   rcases hp2 with⟨⟨x1,x2,x3,x4⟩,rfl,j1,j2,j3⟩|rfl
   case inr=>exact⟨_,_,_,rfl,h⟩
   dsimp only[Lp.thn]at j1 j2 j3⊢
   obtain⟨y,hy,hy1,hy2⟩:=up_any (x:=x4) (a:=x3) (by omega) j2;rw[hy,qV]
   by_cases hb:(32768:Int)<y
   . rw[c1 (dt hb)];exact⟨_,_,_,rfl,h⟩
   rw[c0 (df hb),qV,qV,qV,Y6m (by omega),if_pos ⟨rfl,hf.2⟩,qV,Y6m (by omega),if_pos ⟨rfl,by simpa using hf.2⟩,qV,Y6m (by omega),if_pos ⟨rfl,by simpa using hf.2⟩,qV];refine⟨_,_,_,rfl,?_⟩
   simp only[List.set_set]
   refine h.close ⟨by omega,hf.2⟩ hu hp.1 husz ⟨by dsimp only;omega,by dsimp only;omega,fun _=>j2.1,fun e=>(by cases e),fun e=>?_,by dsimp only;omega⟩ hp.1
   dsimp only at e
   rw[hp.1]at e;cases e
structure Tg(c c':Q0):Prop where
 eq:c'={c with t:=c'.t}
 tab:Tab c'.t
 gr:Gr c.t c'.t
theorem Tg.refl{c:Q0}(h:Tab c.t):Tg c c:=⟨rfl,h,Gr.refl _⟩
theorem Tg.mk'{c:Q0}{t:Z7}(h:Tab t)(g:Gr c.t t):Tg c {c with t:=t}:=⟨rfl,h,g⟩
theorem Tg.trans{a b c:Q0}(h:Tg a b)(g:Tg b c):Tg a c:=⟨by rw[g.eq,h.eq],g.tab,h.gr.trans g.gr⟩
theorem X3v{p:Pos}{k:Int}{c:Q0}{B:Type}{f:Unit->Option (Except (Z4×Q0) B)}{r:B->Prop}(hp:Pn p)(hf:k=0->Og Ep (f ()) r):Og Ep ((R8 p k).bind fun y=>exC y f (fun e=>some (qK (e,c)))) r:=
 Og.bind (must_g hp) (fun _ h=>hf h) (fun e he=>Og.err he)
theorem Z3n{p:Pos}{k:Int}{c:Q0}{B:Type}{f:Unit->Option (Except (Z4×Q0) B)}{r:B->Prop}(hp:Pn p)(hk:k≠0):Og Ep ((X0 p k).bind fun y=>exC y f (fun e=>some (qK (e,c)))) r:=
 Og.bind (X0o hp hk) (fun _ h=>h.elim) (fun e he=>Og.err he)
theorem fail_l{p:Pos}{k:Int}{c:Q0}{S A B:Type}{f:Unit->Option (Lp S (Except (Z4×Q0) A))}{I:S->Prop}{μ:S->Nat}{s:S}{F:Lp S (Except (Z4×Q0) A)->Option (Except (Z4×Q0) B)}{r:B->Prop}(hp:Pn p)(hk:k≠0)(hF:∀e,Ep e->Og Ep (F (.ret (.error e))) r):Rn ((X0 p k).bind fun y=>exC y f (fun e=>some (Lp.ret (qK (e,c))))) (NxG I μ s F Ep r):=
 Rn.bindG (X0o hp hk) (fun _ h=>h.elim) (fun e he=>Rn.ok (hF _ he))
theorem Y7k{p:Pos}{k:Int}{c:Q0}{S A B:Type}{f:Unit->Option (Lp S (Except (Z4×Q0) A))}{I:S->Prop}{μ:S->Nat}{s:S}{F:Lp S (Except (Z4×Q0) A)->Option (Except (Z4×Q0) B)}{r:B->Prop}(hp:Pn p)(hf:k=0->Rn (f ()) (NxG I μ s F Ep r))(hF:∀e,Ep e->Og Ep (F (.ret (.error e))) r):Rn ((R8 p k).bind fun y=>exC y f (fun e=>some (Lp.ret (qK (e,c))))) (NxG I μ s F Ep r):=
 Rn.bindG (must_g hp) (fun _ h=>hf h) (fun e he=>Rn.ok (hF _ he))
theorem Y3y{c:Q0}(h:Tab c.t){p:Pos}(hp:Pn p){ty:M6}(ht:OkT ty):Og Ep (B3 c p ty) (fun x=>Tg c x.2):=by
 unfold B3
 dsimp only[jn]
 have key:∀x1:Int,Og Ep ((X5 (fun(x3,x4,x5)=>(bif decide (x4<ty.Stars)then((Q5i x5 x3).bind fun y3=>(R8 p y3.2.1).bind fun y4=>exC y4 (fun y4=>some (Lp.go (y3.1,qJ .i64 (x4+1),y3.2.2))) (fun e2=>some (Lp.ret (qK (e2,{c with t:=y3.2.2})))))else(some (Lp.brk (x3,x4,x5))):Option (Lp (Int×Int×Z7) (Except (Z4×Q0) (Int×Q0))))) NN (x1,(0:Int),c.t)).bind fun o=>o.thn (fun(x3,x4,x5)=>some (qX (x3,{c with t:=x5}))) (fun r=>some r)) (fun x=>Tg c x.2):=by
  intro x1;have hst:=ht.2.2;refine Og.loop (fun s=>Tab s.2.2/\Gr c.t s.2.2/\0<=s.2.1) (fun s=>ty.Stars.toNat-s.2.1.toNat) ⟨h,Gr.refl _,Int.le_refl 0⟩ (by dsimp only;omega) ?_;rintro⟨x3,x4,x5⟩ ⟨i1,i2,i3⟩
  dsimp only at i1 i2 i3⊢
  by_cases hs:x4<ty.Stars
  . rw[c1 (dt hs)];obtain⟨n,e,t',hy,g1,g2,g3⟩:=X4j i1 x3;refine Rn.step hy ?_;refine Y7k hp (fun he=>Rn.ok ⟨⟨g1,i2.trans g2,by dsimp only;rw[w64 (by omega)];omega⟩,by dsimp only;rw[w64 (by omega)];omega⟩) (fun e he=>Og.err he)
  . rw[c0 (df hs)];exact Rn.ok (Og.ok (Tg.mk' i1 i2))
 by_cases h1:ty.Word=[105,110,116]
 . rw[c1 (dt h1)];exact key 1
 rw[c0 (df h1)]
 by_cases h2:ty.Word=[99,104,97,114]
 . rw[c1 (dt h2)];exact key 2
 rw[c0 (df h2)]
 by_cases h3:ty.Word=[115,116,114,117,99,116]
 . rw[c1 (dt h3)];obtain⟨m,e,hy⟩:=find_any h ty.Name;refine Og.step hy ?_;exact X3v hp fun _=>key m
 rw[c0 (df h3)];exact key 0
theorem X2l{c:Q0}(h:Tab c.t){v:M7}(hv:OkV v)(hd:v.Dims.length<=5000):Og Ep (O1 c v) (fun x=>Tg c x.2):=by
 unfold O1;refine Og.bind (Y3y h hv.pos hv.ty) (fun y1 a1=>?_) (fun e he=>Og.err he);refine Og.loop (fun s=>Tab s.2.2/\Gr c.t s.2.2/\ -1<=s.2.1/\s.2.1<v.Dims.length) (fun s=>(s.2.1+1).toNat) ⟨a1.tab,a1.gr,by dsimp only;rw[w64 (by omega)];omega,by dsimp only;rw[w64 (by omega)];omega⟩ (by dsimp only;rw[w64 (by omega)];omega) ?_;rintro⟨x2,x3,x4⟩ ⟨i1,i2,i3,i4⟩
 dsimp only at i1 i2 i3 i4⊢
 by_cases hs:0<=x3
 . rw[c1 (dt hs)];obtain⟨d,hd2,_⟩:=J2 ⟨hs,i4⟩;refine Rn.step hd2 ?_;obtain⟨n,e,t',hy,g1,g2,g3⟩:=X6i i1 x2 (qJ .i64 d);refine Rn.step hy ?_;refine Y7k hv.pos (fun he=>Rn.ok ⟨⟨g1,i2.trans g2,by dsimp only;rw[w64 (by omega)];omega,by dsimp only;rw[w64 (by omega)];omega⟩,by dsimp only;rw[w64 (by omega)];omega⟩) (fun e he=>Og.err he)
 . rw[c0 (df hs)];refine Rn.ok (Og.ok ⟨?_,i1,i2⟩)
   dsimp only
   rw[a1.eq]
theorem X4g{c:Q0}(h:Tab c.t){v:M7}(hv:OkV v)(hd:v.Dims.length<=5000):Og Ep (Q0x c v) (fun x=>Tg c x.2/\szT x.2.t x.1≠0):=by
 unfold Q0x;refine Og.bind (X2l h hv hd) (fun y1 a1=>?_) (fun e he=>Og.err he);refine Og.step (Q6s _ _) ?_
 by_cases h0:szT y1.2.t y1.1=0
 . rw[c1 (by rw[h0];rfl)];exact Z3n hv.pos (by decide)
 . rw[c0 (by simpa using h0)];exact Og.ok ⟨a1,h0⟩
theorem Y7x{c:Q0}(h:Tab c.t)(n:Int):∃k,W6 c n=some k/\(k≠0->k=szT c.t n)/\0<=k/\k<=32768:=by
 unfold W6;obtain⟨b,hb⟩:=Z4d c.t n;rw[hb,qV];cases b with
 |false=>exact⟨0,rfl,fun e=>absurd rfl e,by decide⟩
 |true=>
  have:=X3k h n;refine⟨szT c.t n,?_,fun _=>rfl,this.1,this.2⟩;rw[c0 (b:=!true) rfl,Q6s]
  rfl
theorem X1r{c:Q0}(h:Tab c.t)(nm:List UInt8)(n:Int):∃s,Q1s c nm n=some s:=by
 unfold Q1s;obtain⟨k,hk,_⟩:=Y7x h n;rw[Q6s,qV,X2x,qV,hk];exact⟨_,rfl⟩
def paT(t:Z7)(n:Int):Int:=if(tyT t n).1.Kind=4 then(tyT t n).1.Elem else n
theorem Y6k{c:Q0}(h:Tab c.t)(n:Int):L9 c n=some (paT c.t n):=by
 unfold L9 paT;rw[Z6k h,qV]
 by_cases h4:(tyT c.t n).1.Kind=4
 . rw[c1 (by rw[h4];rfl),if_pos h4]
 . rw[c0 (by simpa using h4),if_neg h4]
theorem Y3l{p:Pos}{k:Int}{B:Type}{f:Unit->Option (Except Z4 B)}{r:B->Prop}(hp:Pn p)(hk:k≠0):Og Er ((X0 p k).bind fun y=>exC y f (fun e=>some (qK e))) r:=
 Og.bind (X0o hp hk) (fun _ h=>h.elim) (fun e he=>Og.err he)
theorem X4l{c:Q0}(h:Tab c.t){v:M7}(hv:OkV v)(n:Int):Og Er (Q1a c v n) (fun l=>(l=[]\/l=v.Init)/\(l≠[]->szT c.t (paT c.t n)≠0/\szT c.t (paT c.t n)*l.length<=szT c.t n)):=by
 unfold Q1a
 by_cases h0:v.Init=[]
 . rw[c1 (by rw[h0];rfl)];exact Og.ok ⟨.inl rfl,fun e=>absurd rfl e⟩
 . have hn:((v.Init.length:Int)==0)=false:=beq_eq_false_iff_ne.2 (by
    intro e;exact h0 (List.length_eq_zero_iff.1 (by omega)))
   rw[c0 hn,Z6k h,qV]
   by_cases h1:((tyT c.t n).1.Kind==4)=v.Brace
   case neg=>
    rw[c1 (by simpa using h1)];exact Y3l hv.pos (by decide)
   rw[c0 (by simpa using h1),Y6k h,qV];obtain⟨k,hk,hk1,hk2⟩:=Y7x h (paT c.t n);rw[hk,qV]
   by_cases h2:k=0
   . rw[c1 (by rw[h2];rfl)];exact Y3l hv.pos (by decide)
   rw[c0 (by simpa using h2)];have hkz:=hk1 h2
   by_cases h4:(tyT c.t n).1.Kind=4
   . by_cases h3:(tyT c.t n).1.Len<v.Init.length
     . rw[c1 (by rw[h4,dt h3];rfl)];exact Y3l hv.pos (by decide)
     rw[c0 (by rw[df h3];simp)];refine Og.ok ⟨.inr rfl,fun _=>⟨by rw[<-hkz];exact h2,?_⟩⟩;unfold paT at hkz⊢;rw[if_pos h4]at hkz⊢;unfold tyT at h4 h3 hkz⊢;cases hx:idx c.t.list n with
     |none=>rw[hx]at h4;exact absurd h4 (by decide)
     |some x=>
      rw[hx]at h4 h3 hkz
      have hm:x∈c.t.list:=by
       obtain⟨a,b,d⟩:=Q0i hx;exact List.mem_of_getElem? d
      obtain⟨l1,e,he,he1,he2⟩:=(h.k x hm).arr h4;have e1:szT c.t n=x.size:=by unfold szT;rw[hx]
      have e2:szT c.t x.Type_.Elem=e.size:=by unfold szT;rw[he]
      dsimp only at h3⊢
      rw[e1,e2,he2,Int.mul_comm];exact Int.mul_le_mul_of_nonneg_right (by omega) (by omega)
   . have hb:v.Brace=false:=by rw[<-h1];simpa using h4
     have hl:=hv.br hb;rw[c0 (by simp[h4])];refine Og.ok ⟨.inr rfl,fun _=>⟨by rw[<-hkz];exact h2,?_⟩⟩;have hp:paT c.t n=n:=by unfold paT;rw[if_neg h4]
     have h1':v.Init.length=1:=by
      have:=List.length_pos_iff.2 h0;omega
     rw[hp,h1']
     simp
def MpO(m:Option (List (List UInt8×Int)))(n:Nat):Prop:=∃l,m=some l/\∀k v,Z0i l k=some v->0<=v/\v<n
structure Fn(f:G5):Prop where
 ty:f.types.length=f.slots.length
 le:f.slots.length<=200
 sc:∀m∈f.scopes,MpO m f.slots.length
 sl:f.scopes.length<=100000
def FnO:O3 G5->Prop
 | .nil=>True
 | .dead=>False
 | .some f=>Fn f
structure Ck(c:Q0):Prop where
 tab:Tab c.t
 gl:MpO c.globals c.gtypes.length
 co:MpO c.codes c.signs.length
 fn:FnO c.fun_
 gn:Z3w c.globals=c.gtypes.length
 cn:Z3w c.codes=c.signs.length
 ug:c.u.Globals.length=c.gtypes.length
 uc:c.u.Codes.length=c.signs.length
 lg:c.gtypes.length<=200
 lc:c.signs.length<=200
theorem Ck.tg{c c':Q0}(h:Ck c)(g:Tg c c'):Ck c':=by
 have e:=g.eq;have t:=g.tab
 generalize c'.t=t' at e t
 subst e;exact⟨t,h.gl,h.co,h.fn,h.gn,h.cn,h.ug,h.uc,h.lg,h.lc⟩
theorem Tg.fun_eq{c c':Q0}(g:Tg c c'):c'.fun_=c.fun_:=by rw[g.eq]
theorem Tg.back{c c':Q0}(g:Tg c c'):{c' with fun_:=c.fun_}=c':=by
 have:=g.fun_eq;rw[<-this]
structure Cx where
 sig:List Nat
 G:Nat
 S:Nat
def slo(f:O3 G5):Nat:=match f with
 | .some f=>f.slots.length
 |_=>0
def cx(c:Q0):Cx:=⟨c.signs.map fun s=>s.params.length,c.gtypes.length,slo c.fun_⟩
structure Clq(X Y:Cx):Prop where
 s:X.sig=Y.sig
 g:X.G=Y.G
 l:X.S<=Y.S
theorem Clq.refl(X:Cx):Clq X X:=⟨rfl,rfl,qD _⟩
theorem Clq.trans{X Y Z:Cx}(h:Clq X Y)(g:Clq Y Z):Clq X Z:=⟨h.s.trans g.s,h.g.trans g.g,jH h.l g.l⟩
theorem Clq.eq{X Y:Cx}(h:X=Y):Clq X Y:=by subst h;exact Clq.refl _
def arT(k:Int):Nat:=if k=1\/k=2\/k=10\/k=12 then 0 else if k=9 then 3 else if k=3\/k=5\/k=11\/k=13\/k=15\/k=17 then 1 else 2
structure No(X:Cx)(t:Y6):Prop where
 ar:arT t.Kind<=t.Kids.length
 ad:t.Kind=2->0<=t.Var/\t.Var<((if t.Global then X.G else X.S:Nat):Int)
 ca:t.Kind=10->∃v:Nat,t.Var=(v:Int)/\X.sig[v]?=some t.Kids.length
variable{X:Cx}
theorem No.mono{X Y:Cx}{t:Y6}(h:No X t)(g:Clq X Y):No Y t:=⟨h.ar,fun e=>by
 have h1:=h.ad e
 have h2:=g.l
 rw[<-g.g]
 cases hg:t.Global with
 |true=>rw[hg]at h1;exact h1
 |false=>rw[hg,if_neg (by decide)]at h1;rw[if_neg (by decide)];omega,fun e=>by rw[<-g.s];exact h.ca e⟩
theorem No.of{X:Cx}{t:Y6}{k:Int}(hk:t.Kind=k)(h2:k≠2)(h10:k≠10)(ha:arT k<=t.Kids.length):No X t:=⟨by rw[hk];exact ha,fun e=>absurd (hk.symm.trans e) h2,fun e=>absurd (hk.symm.trans e) h10⟩
inductive Dp(X:Cx):Nat->Y6->Prop
 |mk {n:Nat} {t:Y6} (h:∀k∈t.Kids,Dp X n k) (nu:U32 t.Num) (kl:t.Kids.length<=100000) (fo:No X t):Dp X (n+1) t
theorem Dp.mono{n:Nat}{t:Y6}(h:Dp X n t):∀{m:Nat},n<=m->Dp X m t:=by
 induction h with
 |@mk n t hk nu kl fo ih=>
  intro m hm;obtain⟨k,rfl⟩:∃k,m=k+1:=⟨m-1,by omega⟩;exact .mk (fun x hx=>ih x hx (by omega)) nu kl fo
theorem Dp.up{Y:Cx}{n:Nat}{t:Y6}(h:Dp X n t)(g:Clq X Y):Dp Y n t:=by
 induction h with
 |mk hk nu kl fo ih=>exact .mk ih nu kl (fo.mono g)
theorem Dp.k0{n:Nat}{t:Y6}(h:t.Kids=[])(hn:1<=n)(nu:U32 t.Num:=by first|exact Q4t|exact Y3e _)(fo:No X t:=by exact No.of rfl (fun e=>(by cases e)) (fun e=>(by cases e)) (kN rfl)):Dp X n t:=Dp.mono (n:=1) (.mk (n:=0) (fun k hk=>by rw[h]at hk;cases hk) nu (by rw[h];decide) fo) hn
theorem Dp.k1{n m:Nat}{t x:Y6}(h:t.Kids=[x])(hx:Dp X n x)(hm:n+1<=m)(nu:U32 t.Num:=by first|exact Q4t|exact Y3e _)(fo:No X t:=by exact No.of rfl (fun e=>(by cases e)) (fun e=>(by cases e)) (kN rfl)):Dp X m t:=Dp.mono (.mk (n:=n) (fun k hk=>by rw[h,kQ]at hk;rw[hk];exact hx) nu (by rw[h];simp) fo) hm
theorem Dp.k2{n m:Nat}{t x y:Y6}(h:t.Kids=[x,y])(hx:Dp X n x)(hy:Dp X n y)(hm:n+1<=m)(nu:U32 t.Num:=by first|exact Q4t|exact Y3e _)(fo:No X t:=by exact No.of rfl (fun e=>(by cases e)) (fun e=>(by cases e)) (kN rfl)):Dp X m t:=Dp.mono (.mk (n:=n) (fun k hk=>by
 rw[h]at hk
 rcases qZ.1 hk with rfl|hk
 . exact hx
 . rw[kQ.1 hk];exact hy) nu (by rw[h];simp) fo) hm
theorem Z7v{c:Q0}(h:Tab c.t)(n:Int):∃e b,A0 c n=some (e,b):=by
 unfold A0;rw[Z6k h,qV,Q6s,qV];cases(tyT c.t n).1.Kind==3<;>exact⟨_,_,rfl⟩
theorem S4{c:Q0}(h:Tab c.t)(n:Int):∃b,X1 c n=some b:=by
 unfold X1;rw[Z6k h];exact⟨_,rfl⟩
theorem Z8j(c:Q0)(n:Int):∃k,F6 c n=some k:=by
 unfold F6;cases n==2<;>exact⟨_,rfl⟩
theorem Y1i(x:Y8):∃b,Q9o x=some b:=⟨_,rfl⟩
theorem Y2e{c:Q0}(h:Tab c.t)(a b:Y6)(e k:Int):∃s p,R9 c a b e k=some ⟨14,k,0,0,false,s,false,p,[a,b]⟩:=by
 unfold R9;rw[Q6s];exact⟨_,_,rfl⟩
theorem X0d{c:Q0}(h:Tab c.t){p:Pos}(hp:Pn p)(n:Int):Og Ep (Q0y c p n) (fun x=>Tg c x.2):=by
 unfold Q0y;obtain⟨m,e,t',hy,g1,g2,g3⟩:=X4j h n;refine Og.step hy ?_;exact X3v hp fun _=>Og.ok (Tg.mk' g1 g2)
theorem X3i{c:Q0}(h:Tab c.t){p:Pos}(hp:Pn p){v:Y2}{n:Nat}(hv:Dp X n v.term):Og Ep (W5 c p v) (fun x=>Tg c x.2/\Dp X (n+1) x.1.term):=by
 unfold W5
 dsimp only[jn]
 cases hl:v.lies with
 |false=>exact Og.ok ⟨Tg.refl h,hv.mono (by omega)⟩
 |true=>
 rw[c0 (b:=!true) rfl,Z6k h,qV,Q6s,qV]
 by_cases h4:(tyT c.t v.n).1.Kind=4
 . rw[c1 (by rw[h4];rfl)]
   by_cases h2:v.term.Kind=2
   . rw[c0 (by rw[h2];rfl)];exact Og.bind (X0d h hp _) (fun y a=>Og.ok ⟨a,hv.mono (by omega)⟩) (fun e he=>Og.err he)
   . rw[c1 (by simpa using h2)];exact Og.bind (X0d h hp _) (fun y a=>Og.ok ⟨a,Dp.k1 rfl hv (qD _)⟩) (fun e he=>Og.err he)
 . rw[c0 (by simpa using h4)];obtain⟨b,hb⟩:=Z4d c.t v.n;refine Og.step hb ?_;cases b with
   |false=>rw[c1 (b:=!false) rfl];exact Z3n hp (by decide)
   |true=>
    rw[c0 (b:=!true) rfl]
    by_cases h2:v.n=2
    . rw[c1 (by rw[h2];rfl)];obtain⟨q,hq⟩:=S4 h 1;exact Og.step hq (Og.ok ⟨Tg.refl h,Dp.k1 rfl hv (qD _)⟩)
    . rw[c0 (by simpa using h2)];obtain⟨q,hq⟩:=S4 h v.n;exact Og.step hq (Og.ok ⟨Tg.refl h,Dp.k1 rfl hv (qD _)⟩)
theorem Z7j{c:Q0}(h:Tab c.t){x:Y8}(hx:Pn x.Pos){v:Y2}{n:Nat}(hn:1<=n)(hv:Dp X n v.term)(k:Int):Og Er (N4 c x v k) (fun t=>Dp X n t):=by
 unfold N4;obtain⟨b,hb⟩:=S4 h k;obtain⟨z,hz⟩:=Y1i x
 simp only[hb,hz,qV]
 have rest:Og Er (bif (b&&(v.n==k))then(some (qX v.term))else(bif ((!b)&&(v.n==1))then(some (qX v.term))else((X0 x.Pos 5).bind fun y6=>exC y6 (fun y6=>none) (fun e1=>some (qK e1))))) (fun t=>Dp X n t):=by
  cases(b&&(v.n==k))with
  |true=>exact Og.ok hv
  |false=>
   rw[c0 (b:=false) rfl];cases((!b)&&(v.n==1))with
   |true=>exact Og.ok hv
   |false=>rw[c0 (b:=false) rfl];exact Y3l hx (by decide)
 cases b with
 |false=>exact rest
 |true=>
  rw[c1 (b:=true) rfl];cases z with
  |false=>exact rest
  |true=>rw[c1 (b:=true) rfl];exact Og.step (x:=(⟨1,0,0,0,false,0,false,true,[]⟩:Y6)) rfl (Og.ok (Dp.k0 rfl hn))
theorem X2f{c:Q0}(h:Tab c.t){x:Y8}(hx:Pn x.Pos){v:Y2}{n:Nat}(hn:1<=n)(hv:Dp X n v.term)(k:Int):Og Er (O0 c x v k) (fun t=>Dp X (n+1) t):=by
 unfold O0;refine Og.bind (Z7j h hx hn hv k) (fun y a=>?_) (fun e he=>Og.err he);cases k==2 with
 |true=>exact Og.ok (Dp.k1 rfl a (qD _))
 |false=>exact Og.ok (a.mono (by omega))
theorem X4k{c:Q0}(h:Tab c.t){p:Pos}(hp:Pn p){v:Y2}{t:Y6}{n:Nat}(hv:Dp X n v.term)(ht:Dp X n t)(k:Int):Og Er (Q0z c p v t k) (fun y=>Dp X (n+1) y.term):=by
 unfold Q0z;obtain⟨e,b,hb⟩:=Z7v h v.n;refine Og.step hb ?_;cases b with
 |false=>rw[c1 (b:=!false) rfl];exact Y3l hp (by decide)
 |true=>
  rw[c0 (b:=!true) rfl];obtain⟨s,q,hi⟩:=Y2e h v.term t e k;exact Og.step hi (Og.ok (Dp.k2 rfl hv ht (qD _)))
theorem cond_any{α:Type}{b:Bool}{x y:Option α}(h:∃k,x=some k)(g:∃k,y=some k):∃k,(bif b then x else y)=some k:=by cases b<;>assumption
theorem Y7q(o:List UInt8):∃k,Z2q o=some k:=by
 unfold Z2q
 repeat'(first|exact⟨_,rfl⟩|refine cond_any ?_ ?_)
structure Ckx(X:Cx)(c:Q0):Prop extends Ck c where
 cx:Clq (Go.Proofs.YtbfpdnogfkbiaaaGreat.cx c) X
theorem Tg.cx{c c':Q0}(g:Tg c c'):cx c'=cx c:=by rw[g.eq];rfl
theorem Ckx.tg{c c':Q0}(h:Ckx X c)(g:Tg c c'):Ckx X c':=⟨h.toCk.tg g,by rw[g.cx];exact h.cx⟩
theorem Ck.x{c:Q0}(h:Ck c):Ckx (Go.Proofs.YtbfpdnogfkbiaaaGreat.cx c) c:=⟨h,Clq.refl _⟩
variable{X:Cx}
theorem Z1c{x:Y8}{k:Nat}(h:k<x.Kids.length):∃y,idx x.Kids (k:Int)=some y/\y∈x.Kids:=⟨x.Kids[k],C1 h,jT h⟩
theorem OkE.kids{x:Y8}(h:OkE x):∀k∈x.Kids,OkE k:=match h with| .mk k _ _ _ _ _ _=>k
theorem OkE.ar{x:Y8}(h:OkE x):Z5d x.Kind<=x.Kids.length:=match h with| .mk _ _ _ _ a _ _=>a
theorem OkE.ex{x:Y8}(h:OkE x):Ex x.Kind x.Pos x.Op x.Name x.Kids.length:=match h with| .mk _ _ _ _ _ e _=>e
theorem OkE.ty{x:Y8}(h:OkE x):OkT x.Type_:=match h with| .mk _ _ _ t _ _ _=>t
theorem OkE.nu{x:Y8}(h:OkE x):U32 x.Num:=match h with| .mk _ _ _ _ _ _ n=>n
theorem OkE.pn{x:Y8}(h:OkE x):Pn x.Pos:=h.ex.1
theorem equal_g{c:Q0}(h:Tab c.t){x:Y8}(hx:OkE x)(h2:2<=x.Kids.length){u v:Y2}{n:Nat}(hn:1<=n)(hu:Dp X n u.term)(hv:Dp X n v.term):Og Er (Q4a c x u v) (fun y=>Dp X (n+1) y.term):=by
 unfold Q4a
 dsimp only[jn]
 obtain⟨a,ha,ham⟩:=Z1c (k:=0) (show 0<x.Kids.length by omega);obtain⟨b,hb,hbm⟩:=Z1c (k:=1) (show 1<x.Kids.length by omega);refine Og.step ha ?_;refine Og.step hb ?_;have pa:=(hx.kids a ham).pn;have pb:=(hx.kids b hbm).pn;obtain⟨f,hf⟩:=Y7q x.Op;refine Og.step hf ?_;obtain⟨p,hp⟩:=S4 h u.n;obtain⟨q,hq⟩:=S4 h v.n;obtain⟨za,hza⟩:=Y1i a;obtain⟨zb,hzb⟩:=Y1i b;have hno:Q1x=some (⟨1,0,0,0,false,0,false,true,[]⟩:Y6):=rfl
 simp only[hp,hq,hza,hzb,hno,qV]
 have d0:Dp X n (⟨1,0,0,0,false,0,false,true,[]⟩:Y6):=Dp.k0 rfl hn
 cases p<;>cases q<;>cases za<;>cases zb<;>cases(u.n==v.n)<;>cases(u.n !=1)<;>simp only[cond_true,cond_false,Bool.not_true,Bool.not_false]<;>first
  |exact Y3l pa (by decide)
  |exact Y3l pb (by decide)
  |exact Og.ok (Dp.k2 rfl hu hv (qD _))
  |exact Og.ok (Dp.k2 rfl hu d0 (qD _))
  |exact Og.ok (Dp.k2 rfl d0 hv (qD _))
  |skip
theorem find_g{f:G5}(h:Fn f)(nm:List UInt8):∃v b,Q0w f nm=some (v,b)/\(b=true->0<=v/\v<f.types.length):=by
 have hsl:=h.sl;unfold Q0w;refine Exists.elim (L5 (body:=fun(x1:Int)=>(bif decide (0<=x1)then((idx f.scopes x1).bind fun u1=>bif (D3 u1 nm).isSome then(some (Lp.ret ((D3 u1 nm).getD 0,true)))else(some (Lp.go (qJ .i64 (x1-1)))))else(some (Lp.brk x1)):Option (Lp (Int) (Int×Bool)))) (n:=NN) (s:=qJ .i64 ((qQ f.scopes:Int)-1)) (fun s=> -1<=s/\s<f.scopes.length) (fun s=>(s+1).toNat) (fun o=>(∃s,o= .brk s)\/∃v,o= .ret (v,true)/\0<=v/\v<f.types.length) ⟨by rw[w64 (by omega)];omega,by rw[w64 (by omega)];omega⟩ (Q6f (by rw[w64 (by omega)];omega)) ?_) ?_
 . rintro s ⟨s0,s1⟩
   by_cases hs:0<=s
   . rw[c1 (dt hs)];obtain⟨m,hm,hmm⟩:=J2 ⟨hs,s1⟩;rw[hm,qV];obtain⟨l,hl,hv⟩:=h.sc m hmm;have hg:D3 m nm=Z0i l nm:=by unfold D3;rw[hl];rfl
     rw[hg];cases he:Z0i l nm with
     |none=>exact⟨_,rfl,⟨by rw[w64 (by omega)];omega,by rw[w64 (by omega)];omega⟩,by rw[w64 (by omega)];omega⟩
     |some v=>
      have:=hv nm v he;exact⟨_,rfl,.inr ⟨v,rfl,this.1,by rw[h.ty];exact this.2⟩⟩
   . rw[c0 (df hs)];exact⟨_,rfl,.inl ⟨_,rfl⟩⟩
 . rintro o ⟨ho,hp⟩;rw[ho,qV]
   rcases hp with⟨s,rfl⟩|⟨v,rfl,hv⟩
   . exact⟨_,_,rfl,fun e=>by cases e⟩
   . exact⟨_,_,rfl,fun _=>hv⟩
theorem name_g{c:Q0}(h:Ckx X c){x:Y8}(hx:Pn x.Pos):Og Ep (Q5l c x) (fun y=>y.2=c/\Dp X 1 y.1.term):=by
 unfold Q5l
 dsimp only[jn]
 have rest:Og Ep (bif !((D3 c.globals x.Name).isSome)then((X0 x.Pos 4).bind fun y2=>exC y2 (fun y2=>none) (fun e1=>some (qK (e1,c))))else((idx c.gtypes ((D3 c.globals x.Name).getD 0)).bind fun u5=>some (qX ((⟨u5,(⟨2,0,0,(D3 c.globals x.Name).getD 0,true,0,false,true,[]⟩:Y6),true⟩:Y2),c)))) (fun y=>y.2=c/\Dp X 1 y.1.term):=by
  obtain⟨l,hl,hv⟩:=h.gl;have hg:D3 c.globals x.Name=Z0i l x.Name:=by unfold D3;rw[hl];rfl
  rw[hg];cases he:Z0i l x.Name with
  |none=>rw[c1 (b:=!(kJ none)) rfl];exact Z3n hx (by decide)
  |some v=>
   have hvr:=hv _ _ he;obtain⟨t,ht,_⟩:=J2 hvr;rw[c0 (b:=!(kJ (some v))) rfl];exact Og.step ht (Og.ok ⟨rfl,Dp.k0 rfl (qD _) Q4t ⟨kN rfl,fun _=>⟨hvr.1,by rw[if_pos rfl,<-h.cx.g];exact hvr.2⟩,fun e=>(by cases e)⟩⟩)
 have hf:=h.fn;cases hfn:c.fun_ with
 |nil=>exact rest
 |dead=>rw[hfn]at hf;exact hf.elim
 |some f=>
  rw[hfn]at hf;have hf:Fn f:=hf;refine Og.step (x:=false) rfl ?_;rw[c1 (b:=!false) rfl];refine Og.step (x:=f) rfl ?_;obtain⟨v,b,hy,hv⟩:=find_g hf x.Name;refine Og.step hy ?_;cases b with
  |false=>exact rest
  |true=>
   have hvr:=hv rfl;obtain⟨t,ht,_⟩:=J2 hvr;have hl:=h.cx.l;have hs:(cx c).S=f.slots.length:=by unfold cx slo;rw[hfn]
   have hty:=hf.ty;exact Og.step ht (Og.ok ⟨rfl,Dp.k0 rfl (qD _) Q4t ⟨kN rfl,fun _=>(⟨hvr.1,by rw[if_neg (fun e=>by cases e)];show v<(X.S:Int);omega⟩:0<=v/\v<((if false=true then X.G else X.S:Nat):Int)),fun e=>(by cases e)⟩⟩)
variable{X:Cx}
def QV(X:Cx)(c:Q0)(n:Nat)(y:Y2×Q0):Prop:=Tg c y.2/\Dp X n y.1.term
def QT(X:Cx)(c:Q0)(n:Nat)(y:Y6×Q0):Prop:=Tg c y.2/\Dp X n y.1
theorem X5e{x k:Y8}(h:k∈x.Kids):wE k<=sm wE x.Kids:=by
 obtain⟨s,t,e⟩:=List.append_of_mem h;rw[e,Q2w,Z0f];omega
theorem Z5a{x k:Y8}(h:k∈x.Kids):wE k+1<=wE x:=by
 have:=X5e h;have h2:=X1k x;omega
structure OkX(x:Y8):Prop where
 e:OkE x
 w:wE x<=10000
theorem OkX.kids{x:Y8}(h:OkX x):∀k∈x.Kids,OkX k:=fun k hk=>⟨h.e.kids k hk,by have:=Z5a hk;have:=h.w;omega⟩
theorem OkX.ar{x:Y8}(h:OkX x):Z5d x.Kind<=x.Kids.length:=h.e.ar
theorem OkX.ex{x:Y8}(h:OkX x):Ex x.Kind x.Pos x.Op x.Name x.Kids.length:=h.e.ex
theorem OkX.ty{x:Y8}(h:OkX x):OkT x.Type_:=h.e.ty
theorem OkX.pn{x:Y8}(h:OkX x):Pn x.Pos:=h.e.pn
structure S3(X:Cx)(n:Nat):Prop where
 asked:∀c x,Ckx X c->OkX x->20*wE x+5<=n->Og Ep ((O8 n).K3 c x) (QT X c (6*wE x))
 number:∀c x,Ckx X c->OkX x->20*wE x+5<=n->Og Ep ((O8 n).V8 c x) (QT X c (6*wE x))
 unary:∀c x,Ckx X c->OkX x->1<=x.Kids.length->20*wE x+2<=n->Og Ep ((O8 n).P4 c x) (QV X c (6*wE x-2))
 both:∀c k x,(k=7\/k=8)->Ckx X c->OkX x->2<=x.Kids.length->20*wE x+1<=n->Og Ep ((O8 n).E3 c k x) (QV X c (6*wE x-2))
 binary:∀c x,Ckx X c->OkX x->2<=x.Kids.length->20*wE x+2<=n->Og Ep ((O8 n).B5 c x) (QV X c (6*wE x-2))
 lying:∀c x,Ckx X c->OkX x->20*wE x+4<=n->Og Ep ((O8 n).D5 c x) (QV X c (6*wE x-2))
 assign:∀c x,Ckx X c->OkX x->2<=x.Kids.length->x.Op≠[]->20*wE x+2<=n->Og Ep ((O8 n).B6 c x) (QV X c (6*wE x-2))
 cond:∀c x,Ckx X c->OkX x->3<=x.Kids.length->20*wE x+2<=n->Og Ep ((O8 n).M4 c x) (QV X c (6*wE x-2))
 call:∀c x,Ckx X c->OkX x->x.Kind=7->20*wE x+2<=n->Og Ep ((O8 n).M5 c x) (QV X c (6*wE x-2))
 member:∀c x,Ckx X c->OkX x->1<=x.Kids.length->20*wE x+2<=n->Og Ep ((O8 n).B4 c x) (QV X c (6*wE x-2))
 step:∀c x,Ckx X c->OkX x->1<=x.Kids.length->20*wE x+2<=n->Og Ep ((O8 n).M3 c x) (QV X c (6*wE x-2))
 expr:∀c x,Ckx X c->OkX x->20*wE x+3<=n->Og Ep ((O8 n).J1 c x) (QV X c (6*wE x-2))
 value:∀c x,Ckx X c->OkX x->20*wE x+4<=n->Og Ep ((O8 n).Z6 c x) (QV X c (6*wE x))
theorem asked_s3{n:Nat}(h:S3 X n):∀c x,Ckx X c->OkX x->20*wE x+5<=n+1->Og Ep ((O8 (n+1)).K3 c x) (QT X c (6*wE x)):=by
 intro c x hc hx hn;show Og Ep (Q1o (O8 n) c x) _;unfold Q1o;refine Og.bind (h.value c x hc hx (by omega)) (fun y a=>?_) (fun e he=>Og.err he);cases y.1.n !=1 with
 |false=>exact Og.ok a
 |true=>
  obtain⟨b,hb⟩:=S4 a.1.tab y.1.n;refine Og.step hb ?_;cases b with
  |true=>exact Og.ok a
  |false=>rw[c1 (b:=!false) rfl];exact Z3n hx.pn (by decide)
theorem X5i{n:Nat}(h:S3 X n):∀c x,Ckx X c->OkX x->20*wE x+5<=n+1->Og Ep ((O8 (n+1)).V8 c x) (QT X c (6*wE x)):=by
 intro c x hc hx hn;show Og Ep (Q0l (O8 n) c x) _;unfold Q0l;refine Og.bind (h.value c x hc hx (by omega)) (fun y a=>?_) (fun e he=>Og.err he);cases y.1.n !=1 with
 |false=>exact Og.ok a
 |true=>rw[c1 (b:=true) rfl];exact Z3n hx.pn (by decide)
theorem both_s3{n:Nat}(h:S3 X n):∀c k x,(k=7\/k=8)->Ckx X c->OkX x->2<=x.Kids.length->20*wE x+1<=n+1->Og Ep ((O8 (n+1)).E3 c k x) (QV X c (6*wE x-2)):=by
 intro c k x hk hc hx h2 hn;show Og Ep (Q2o (O8 n) c k x) _;unfold Q2o;obtain⟨a,ha,ham⟩:=Z1c (k:=0) (show 0<x.Kids.length by omega);obtain⟨b,hb,hbm⟩:=Z1c (k:=1) (show 1<x.Kids.length by omega);have wa:=Z5a ham;have wb:=Z5a hbm;refine Og.step ha ?_;refine Og.bind (h.asked c a hc (hx.kids a ham) (by omega)) (fun y1 a1=>?_) (fun e he=>Og.err he);refine Og.step hb ?_;refine Og.bind (h.asked y1.2 b (hc.tg a1.1) (hx.kids b hbm) (by omega)) (fun y2 a2=>?_) (fun e he=>Og.err he);exact Og.ok ⟨a1.1.trans a2.1,Dp.k2 (n:=6*wE x-6) rfl (a1.2.mono (by omega)) (a2.2.mono (by omega)) (by omega) Q4t (by rcases hk with rfl|rfl<;>exact No.of rfl (fun e=>(by cases e)) (fun e=>(by cases e)) (kN rfl))⟩
theorem lying_s3{n:Nat}(h:S3 X n):∀c x,Ckx X c->OkX x->20*wE x+4<=n+1->Og Ep ((O8 (n+1)).D5 c x) (QV X c (6*wE x-2)):=by
 intro c x hc hx hn;show Og Ep (Q1m (O8 n) c x) _;unfold Q1m;refine Og.bind (h.expr c x hc hx (by omega)) (fun y a=>?_) (fun e he=>Og.err he);cases y.1.lies with
 |false=>rw[c1 (b:=!false) rfl];exact Z3n hx.pn (by decide)
 |true=>
  rw[c0 (b:=!true) rfl];obtain⟨b,hb⟩:=Z4d y.2.t y.1.n;refine Og.step hb ?_;cases b with
  |true=>exact Og.ok a
  |false=>rw[c1 (b:=!false) rfl];exact Z3n hx.pn (by decide)
theorem value_s3{n:Nat}(h:S3 X n):∀c x,Ckx X c->OkX x->20*wE x+4<=n+1->Og Ep ((O8 (n+1)).Z6 c x) (QV X c (6*wE x)):=by
 intro c x hc hx hn;show Og Ep (Q1i (O8 n) c x) _;unfold Q1i;have:=Q4s x;refine Og.bind (h.expr c x hc hx (by omega)) (fun y a=>?_) (fun e he=>Og.err he);refine Og.bind (X3i a.1.tab hx.pn a.2) (fun z b=>?_) (fun e he=>Og.err he);refine Og.ok ⟨?_,b.2.mono (by omega)⟩
 dsimp only
 rw[b.1.back];exact a.1.trans b.1
theorem unary_s3{n:Nat}(h:S3 X n):∀c x,Ckx X c->OkX x->1<=x.Kids.length->20*wE x+2<=n+1->Og Ep ((O8 (n+1)).P4 c x) (QV X c (6*wE x-2)):=by
 intro c x hc hx h1 hn;show Og Ep (Q1j (O8 n) c x) _;unfold Q1j
 dsimp only[jn]
 obtain⟨a,ha,ham⟩:=Z1c (k:=0) (show 0<x.Kids.length by omega);have wa:=Z5a ham;have oa:=hx.kids a ham;refine Og.step ha ?_
 have num:∀k:Int,Og Ep (((O8 n).V8 c a).bind fun y9=>exE y9 (fun y9=>some (qX ((⟨1,(⟨5,k,0,0,false,0,false,false,([y9.1]:List Y6)⟩:Y6),false⟩:Y2),y9.2)))) (QV X c (6*wE x-2)):=fun k=>
  Og.bind (h.number c a hc oa (by omega)) (fun y a1=>Og.ok ⟨a1.1,Dp.k1 (n:=6*wE x-6) rfl (a1.2.mono (by omega)) (by omega)⟩) (fun e he=>Og.err he)
 by_cases o1:x.Op=[38]
 . rw[c1 (dt o1)];refine Og.bind (h.expr c a hc oa (by omega)) (fun y1 a1=>?_) (fun e he=>Og.err he);refine Og.step (Z6k a1.1.tab _) ?_;cases((!y1.1.lies)||((tyT y1.2.t y1.1.n).1.Kind==4))with
   |true=>rw[c1 (b:=true) rfl];exact Z3n oa.pn (by decide)
   |false=>
    rw[c0 (b:=false) rfl];refine Og.bind (X0d a1.1.tab hx.pn _) (fun y4 a4=>?_) (fun e he=>Og.err he);refine Og.ok ⟨?_,a1.2.mono (by omega)⟩
    dsimp only
    rw[a4.back];exact a1.1.trans a4
 rw[c0 (df o1)]
 by_cases o2:x.Op=[42]
 . rw[c1 (dt o2)];refine Og.bind (h.value c a hc oa (by omega)) (fun y1 a1=>?_) (fun e he=>Og.err he);obtain⟨e,b,hb⟩:=Z7v a1.1.tab y1.1.n;refine Og.step hb ?_;cases b with
   |false=>rw[c1 (b:=!false) rfl];exact Z3n oa.pn (by decide)
   |true=>exact Og.ok ⟨a1.1,a1.2.mono (by omega)⟩
 rw[c0 (df o2)]
 by_cases o3:x.Op=[33]
 . rw[c1 (dt o3)];exact Og.bind (h.asked c a hc oa (by omega)) (fun y a1=>Og.ok ⟨a1.1,Dp.k1 (n:=6*wE x-6) rfl (a1.2.mono (by omega)) (by omega)⟩) (fun e he=>Og.err he)
 rw[c0 (df o3)]
 by_cases o4:x.Op=[45]
 . rw[c1 (dt o4)];exact num 17
 . rw[c0 (df o4)];exact num 18
variable{X:Cx}
theorem Q0d{p:Pos}{k:Int}{c:Q0}{B:Type}{r:B->Prop}(hp:Pn p)(hk:k≠0):Og Ep ((X0 p k).bind fun y=>exC y (fun _=>(none:Option (Except (Z4×Q0) B))) (fun e=>some (qK (e,c)))) r:=Z3n hp hk
theorem X6f{n:Nat}(h:S3 X n):∀c x,Ckx X c->OkX x->2<=x.Kids.length->20*wE x+2<=n+1->Og Ep ((O8 (n+1)).B5 c x) (QV X c (6*wE x-2)):=by
 intro c x hc hx h2 hn;show Og Ep (Q0r (O8 n) c x) _;unfold Q0r
 dsimp only[jn]
 by_cases o1:x.Op=[38,38]
 . rw[c1 (dt o1)];exact Og.bind (h.both c 7 x (.inl rfl) hc hx h2 (by omega)) (fun y a=>Og.ok a) (fun e he=>Og.err he)
 rw[c0 (df o1)]
 by_cases o2:x.Op=[124,124]
 . rw[c1 (dt o2)];exact Og.bind (h.both c 8 x (.inr rfl) hc hx h2 (by omega)) (fun y a=>Og.ok a) (fun e he=>Og.err he)
 rw[c0 (df o2)];obtain⟨a,ha,ham⟩:=Z1c (k:=0) (show 0<x.Kids.length by omega);obtain⟨b,hb,hbm⟩:=Z1c (k:=1) (show 1<x.Kids.length by omega);have wa:=Z5a ham;have wb:=Z5a hbm;have pa:=Q4s a;have oa:=hx.kids a ham;have ob:=hx.kids b hbm;refine Og.step ha ?_;refine Og.step hb ?_;refine Og.bind (h.value c a hc oa (by omega)) (fun y3 a3=>?_) (fun e he=>Og.err he);refine Og.bind (h.value y3.2 b (hc.tg a3.1) ob (by omega)) (fun y4 a4=>?_) (fun e he=>Og.err he);have tg:=a3.1.trans a4.1;have da:=a3.2.mono (show 6*wE a<=6*wE x-6 by omega);have db:=a4.2.mono (show 6*wE b<=6*wE x-6 by omega);obtain⟨f,hf⟩:=Y7q x.Op;refine Og.step hf ?_;cases((y3.1.n==1)&&(y4.1.n==1))with
 |true=>exact Og.ok ⟨tg,Dp.k2 rfl da db (by omega)⟩
 |false=>
 rw[c0 (b:=false) rfl];cases((f==11)||(f==12))with
 |true=>exact Og.bind (equal_g a4.1.tab hx.e h2 (n:=6*wE x-6) (by omega) da db) (fun y q=>Og.ok ⟨tg,q.mono (by omega)⟩) (fun e he=>Og.err he)
 |false=>
 rw[c0 (b:=false) rfl];cases((f==1)&&(y3.1.n==1))with
 |true=>exact Og.bind (X4k a4.1.tab ob.pn db da f) (fun y q=>Og.ok ⟨tg,q.mono (by omega)⟩) (fun e he=>Og.err he)
 |false=>
 rw[c0 (b:=false) rfl];cases(((f==1)||(f==2))&&(y4.1.n==1))with
 |true=>exact Og.bind (X4k a4.1.tab oa.pn da db f) (fun y q=>Og.ok ⟨tg,q.mono (by omega)⟩) (fun e he=>Og.err he)
 |false=>
 rw[c0 (b:=false) rfl];cases(y3.1.n !=1)with
 |false=>rw[c0 (b:=false) rfl];exact Q0d ob.pn (by decide)
 |true=>
  rw[c1 (b:=true) rfl];obtain⟨p,hp⟩:=S4 a4.1.tab y3.1.n;refine Og.step hp ?_;cases((!p)||((f !=1)&&(f !=2)))with
  |true=>rw[c1 (b:=true) rfl];exact Q0d oa.pn (by decide)
  |false=>rw[c0 (b:=false) rfl];exact Q0d ob.pn (by decide)
theorem X6h{n:Nat}(h:S3 X n):∀c x,Ckx X c->OkX x->2<=x.Kids.length->x.Op≠[]->20*wE x+2<=n+1->Og Ep ((O8 (n+1)).B6 c x) (QV X c (6*wE x-2)):=by
 intro c x hc hx h2 ho hn;show Og Ep (Q0s (O8 n) c x) _;unfold Q0s
 dsimp only[jn]
 obtain⟨a,ha,ham⟩:=Z1c (k:=0) (show 0<x.Kids.length by omega);obtain⟨b,hb,hbm⟩:=Z1c (k:=1) (show 1<x.Kids.length by omega);have wa:=Z5a ham;have wb:=Z5a hbm;have pa:=Q4s a;have oa:=hx.kids a ham;have ob:=hx.kids b hbm;refine Og.step ha ?_;refine Og.step hb ?_;refine Og.bind (h.lying c a hc oa (by omega)) (fun y1 a1=>?_) (fun e he=>Og.err he);have da:=a1.2.mono (show 6*wE a-2<=6*wE x-6 by omega);refine Og.step (Q6s _ _) ?_;obtain⟨p,hp⟩:=S4 a1.1.tab y1.1.n;refine Og.step hp ?_
 by_cases o1:x.Op=[61]
 . rw[c1 (dt o1)];refine Og.bind (h.value y1.2 b (hc.tg a1.1) ob (by omega)) (fun y4 a4=>?_) (fun e he=>Og.err he);have db:=a4.2.mono (show 6*wE b<=6*wE x-6 by omega);refine Og.bind (Z7j a4.1.tab ob.pn (n:=6*wE x-6) (by omega) db y1.1.n) (fun y5 a5=>?_) (fun e he=>Og.err he);obtain⟨k,hk⟩:=Z8j y4.2 y1.1.n;exact Og.step hk (Og.ok ⟨a1.1.trans a4.1,Dp.k2 rfl da a5 (by omega)⟩)
 rw[c0 (df o1)];have ol:1<=x.Op.length:=List.length_pos_iff.2 ho;have oq:x.Op.length<=70000:=match hx.e with| .mk _ _ o _ _ _ _=>o;rw[w64 (by omega),show((x.Op.length:Int)-1)=((x.Op.length-1:Nat):Int) by omega];refine Og.step (Y0w (b:=x.Op) (n:=x.Op.length-1) (by omega)) ?_;obtain⟨f,hf⟩:=Y7q (x.Op.take (x.Op.length-1));refine Og.step hf ?_
 have rest:∀t:Y6,t.Kind=16->U32 t.Num->Og Ep (((O8 n).V8 y1.2 b).bind fun y11=>exE y11 (fun y11=>(F6 y11.2 y1.1.n).bind fun y12=>some (qX ((⟨y12,{t with Kids:=([y1.1.term,y11.1]:List Y6)},false⟩:Y2),y11.2)))) (QV X c (6*wE x-2)):=fun t tk nu=>by
  refine Og.bind (h.number y1.2 b (hc.tg a1.1) ob (by omega)) (fun y4 a4=>?_) (fun e he=>Og.err he);obtain⟨k,hk⟩:=Z8j y4.2 y1.1.n;exact Og.step hk (Og.ok ⟨a1.1.trans a4.1,Dp.k2 rfl da (a4.2.mono (show 6*wE b<=6*wE x-6 by omega)) (by omega) nu (No.of tk (by decide) (by decide) (kN rfl))⟩)
 cases p with
 |false=>exact rest (⟨16,f,0,0,false,szT y1.2.t y1.1.n,false,false,[]⟩:Y6) rfl Q4t
 |true=>
  rw[c1 (b:=true) rfl];obtain⟨e,q,hq⟩:=Z7v a1.1.tab y1.1.n;refine Og.step hq ?_;cases((!q)||((f !=1)&&(f !=2)))with
  |true=>rw[c1 (b:=true) rfl];exact Q0d oa.pn (by decide)
  |false=>
   rw[c0 (b:=false) rfl];refine Og.step (Q6s _ _) ?_;exact rest (⟨16,f,qJ .u32 (szT y1.2.t e),0,false,szT y1.2.t y1.1.n,false,true,[]⟩:Y6) rfl (Y3e _)
theorem step_s3{n:Nat}(h:S3 X n):∀c x,Ckx X c->OkX x->1<=x.Kids.length->20*wE x+2<=n+1->Og Ep ((O8 (n+1)).M3 c x) (QV X c (6*wE x-2)):=by
 intro c x hc hx h1 hn;show Og Ep (Q2i (O8 n) c x) _;unfold Q2i
 dsimp only[jn]
 obtain⟨a,ha,ham⟩:=Z1c (k:=0) (show 0<x.Kids.length by omega);have wa:=Z5a ham;have pa:=Q4s a;have oa:=hx.kids a ham;refine Og.step ha ?_;refine Og.bind (h.lying c a hc oa (by omega)) (fun y1 a1=>?_) (fun e he=>Og.err he);have da:=a1.2.mono (show 6*wE a-2<=6*wE x-6 by omega);obtain⟨p,hp⟩:=S4 a1.1.tab y1.1.n;obtain⟨k,hk⟩:=Z8j y1.2 y1.1.n
 have rest:∀m:Int,Og Ep ((K2 y1.2.t y1.1.n).bind fun y6=>(X1 y1.2 y1.1.n).bind fun y7=>(F6 y1.2 y1.1.n).bind fun y8=>some (qX ((⟨y8,(⟨15,0,qJ .u32 m,0,false,y6,x.Kind==11,y7,([y1.1.term]:List Y6)⟩:Y6),false⟩:Y2),y1.2))) (QV X c (6*wE x-2)):=fun m=>by
  refine Og.step (Q6s _ _) ?_;refine Og.step hp ?_;exact Og.step hk (Og.ok ⟨a1.1,Dp.k1 rfl da (by omega)⟩)
 have both:∀m:Int,Og Ep (bif decide (x.Op=([45,45]:List UInt8))then((K2 y1.2.t y1.1.n).bind fun y6=>(X1 y1.2 y1.1.n).bind fun y7=>(F6 y1.2 y1.1.n).bind fun y8=>some (qX ((⟨y8,(⟨15,0,qJ .u32 (qJ .i64 (0-m)),0,false,y6,x.Kind==11,y7,([y1.1.term]:List Y6)⟩:Y6),false⟩:Y2),y1.2)))else((K2 y1.2.t y1.1.n).bind fun y6=>(X1 y1.2 y1.1.n).bind fun y7=>(F6 y1.2 y1.1.n).bind fun y8=>some (qX ((⟨y8,(⟨15,0,qJ .u32 m,0,false,y6,x.Kind==11,y7,([y1.1.term]:List Y6)⟩:Y6),false⟩:Y2),y1.2)))) (QV X c (6*wE x-2)):=fun m=>by
  cases decide (x.Op=([45,45]:List UInt8))with
  |true=>exact rest _
  |false=>exact rest _
 refine Og.step hp ?_;cases p with
 |false=>exact both 1
 |true=>
  rw[c1 (b:=true) rfl];obtain⟨e,q,hq⟩:=Z7v a1.1.tab y1.1.n;refine Og.step hq ?_;cases q with
  |false=>rw[c1 (b:=!false) rfl];exact Q0d oa.pn (by decide)
  |true=>
   rw[c0 (b:=!true) rfl];refine Og.step (Q6s _ _) ?_;exact both _
variable{X:Cx}
theorem Dp.kk{n m:Nat}{t:Y6}(h:∀k∈t.Kids,Dp X n k)(hm:n+1<=m)(nu:U32 t.Num:=by first|exact Q4t|exact Y3e _)(kl:t.Kids.length<=100000:=by simp)(fo:No X t:=by exact No.of rfl (fun e=>(by cases e)) (fun e=>(by cases e)) (kN rfl)):Dp X m t:=Dp.mono (.mk h nu kl fo) hm
theorem d3{n:Nat}{a b c:Y6}(ha:Dp X n a)(hb:Dp X n b)(hc:Dp X n c):∀k∈([a,b,c]:List Y6),Dp X n k:=by
 intro k hk
 simp only[qZ,List.not_mem_nil,or_false]at hk
 rcases hk with rfl|rfl|rfl<;>assumption
theorem cond_s3{n:Nat}(h:S3 X n):∀c x,Ckx X c->OkX x->3<=x.Kids.length->20*wE x+2<=n+1->Og Ep ((O8 (n+1)).M4 c x) (QV X c (6*wE x-2)):=by
 intro c x hc hx h3 hn;show Og Ep (Q2m (O8 n) c x) _;unfold Q2m
 dsimp only[jn]
 obtain⟨a,ha,ham⟩:=Z1c (k:=1) (show 1<x.Kids.length by omega);obtain⟨b,hb,hbm⟩:=Z1c (k:=2) (show 2<x.Kids.length by omega);obtain⟨q,hq,hqm⟩:=Z1c (k:=0) (show 0<x.Kids.length by omega);have wa:=Z5a ham;have wb:=Z5a hbm;have wq:=Z5a hqm;have oa:=hx.kids a ham;have ob:=hx.kids b hbm;have oq:=hx.kids q hqm;have pa:=Q4s a;refine Og.step ha ?_;refine Og.step hb ?_;refine Og.step hq ?_;refine Og.bind (h.asked c q hc oq (by omega)) (fun y1 a1=>?_) (fun e he=>Og.err he);refine Og.bind (h.value y1.2 a (hc.tg a1.1) oa (by omega)) (fun y2 a2=>?_) (fun e he=>Og.err he);refine Og.bind (h.value y2.2 b ((hc.tg a1.1).tg a2.1) ob (by omega)) (fun y3 a3=>?_) (fun e he=>Og.err he);have tg:=(a1.1.trans a2.1).trans a3.1;have tb:=a3.1.tab;have dq:=a1.2.mono (show 6*wE q<=6*wE x-6 by omega);have da:=a2.2.mono (show 6*wE a<=6*wE x-6 by omega);have db:=a3.2.mono (show 6*wE b<=6*wE x-6 by omega);obtain⟨v3,⟨c1',c2',c3',c4',c5',c6',c7'⟩⟩:=y3
 dsimp only at tg tb db⊢
 obtain⟨p,hp⟩:=S4 (c:=⟨c1',c2',c3',c4',c5',c6',c7'⟩) tb y2.1.n;obtain⟨r,hr⟩:=S4 (c:=⟨c1',c2',c3',c4',c5',c6',c7'⟩) tb v3.n;obtain⟨za,hza⟩:=Y1i a;obtain⟨zb,hzb⟩:=Y1i b;have hno:Q1x=some (⟨1,0,0,0,false,0,false,true,[]⟩:Y6):=rfl;have d0:Dp X (6*wE x-6) (⟨1,0,0,0,false,0,false,true,[]⟩:Y6):=Dp.k0 rfl (by omega);have hwn:=Z7j (c:=⟨c1',c2',c3',c4',c5',c6',c7'⟩) tb ob.pn (n:=6*wE x-6) (by omega) db y2.1.n
 simp only[hp,hr,hza,hzb,hno,qV]
 cases p<;>cases r<;>cases za<;>cases zb<;>cases(y2.1.n==1)<;>cases(v3.n==1)<;>cases(y2.1.n==v3.n)<;>cases(y2.1.n !=1)<;>simp only[cond_true,cond_false,Bool.not_true,Bool.not_false,Bool.and_true,Bool.and_false]<;>first
  |exact Q0d oa.pn (by decide)
  |exact Q0d ob.pn (by decide)
  |exact Og.ok ⟨tg,Dp.kk (d3 dq da db) (by omega)⟩
  |exact Og.ok ⟨tg,Dp.kk (d3 dq d0 db) (by omega)⟩
  |exact Og.bind hwn (fun y6 a6=>Og.step rfl (Og.step rfl (Og.ok ⟨tg,Dp.kk (d3 dq da a6) (by omega)⟩))) (fun e he=>Og.err he)
  |exact Og.step rfl (Og.step rfl (Og.ok ⟨tg,Dp.kk (d3 dq d0 db) (by omega)⟩))
theorem X5k{n:Nat}(h:S3 X n):∀c x,Ckx X c->OkX x->1<=x.Kids.length->20*wE x+2<=n+1->Og Ep ((O8 (n+1)).B4 c x) (QV X c (6*wE x-2)):=by
 intro c x hc hx h1 hn;show Og Ep (Q0m (O8 n) c x) _;unfold Q0m
 dsimp only[jn]
 obtain⟨a,ha,ham⟩:=Z1c (k:=0) (show 0<x.Kids.length by omega);have wa:=Z5a ham;have pa:=Q4s a;have oa:=hx.kids a ham;refine Og.step ha ?_;refine Og.bind (h.expr c a hc oa (by omega)) (fun y1 a1=>?_) (fun e he=>Og.err he);have da:=a1.2.mono (show 6*wE a-2<=6*wE x-6 by omega)
 have rest:∀(v:Y2)(c':Q0),Tg c c'->Dp X (6*wE x-5) v.term->Og Ep ((C3 c'.t v.n).bind fun y5=>bif ((!v.lies)||(y5.1.Kind !=5))then((X0 a.Pos 5).bind fun y6=>exC y6 (fun y6=>none) (fun e3=>some (qK (e3,{c' with t:=c'.t}))))else((Q4r c'.t v.n x.Name).bind fun y7=>(R8 x.Pos y7.2).bind fun y8=>exC y8 (fun y8=>(K2 c'.t y7.1.Type_).bind fun y9=>some (qX ((⟨y7.1.Type_,(⟨13,0,qJ .u32 y7.1.At,0,false,y9,false,true,([v.term]:List Y6)⟩:Y6),true⟩:Y2),{c' with t:=c'.t}))) (fun e4=>some (qK (e4,{c' with t:=c'.t}))))) (QV X c (6*wE x-2)):=by
  intro v c' tg dv;refine Og.step (Z6k tg.tab _) ?_;cases((!v.lies)||((tyT c'.t v.n).1.Kind !=5))with
  |true=>rw[c1 (b:=true) rfl];exact Q0d oa.pn (by decide)
  |false=>
   rw[c0 (b:=false) rfl];obtain⟨f,e,hf⟩:=X5t tg.tab v.n x.Name;refine Og.step hf ?_;refine X3v hx.pn fun _=>?_;refine Og.step (Q6s _ _) ?_;exact Og.ok ⟨tg,Dp.k1 rfl dv (by omega)⟩
 by_cases o1:x.Op=[45,62]
 . rw[c1 (dt o1)];refine Og.bind (X3i a1.1.tab oa.pn da) (fun y2 a2=>?_) (fun e he=>Og.err he);have tg:=a1.1.trans a2.1;have hb:=a2.1.back;obtain⟨e,q,hq⟩:=Z7v a2.1.tab y2.1.n;rw[hb];refine Og.step hq ?_;cases q with
   |false=>rw[c1 (b:=!false) rfl];exact Q0d oa.pn (by decide)
   |true=>
    rw[c0 (b:=!true) rfl];exact rest (⟨e,y2.1.term,true⟩:Y2) y2.2 tg (a2.2.mono (by omega))
 . rw[c0 (df o1)];exact rest y1.1 y1.2 a1.1 (da.mono (by omega))
end
end Go.Proofs.YtbfpdnogfkbiaaaGreat
