/- Lemmas that hold for every program. -/
import Derived.Test.YtfffghclkmbopaaGreatKLC
import Derived.KernelRfl
set_option linter.unusedVariables false
namespace Go.Proofs.YtfffghclkmbopaaGreat
open List renaming length → qQ, length_append → qW, length_cons → qY, mem_cons → qZ, mem_append → jQ, length_singleton → qG, set → qP, length_take → qE, mem_singleton → kQ, getElem?_eq_getElem → kM, getElem?_append_left → kR, getElem?_append_right → kS, mem_of_getElem? → jW, getElem_mem → jT
open IntKind renaming wrap → qJ
open Except renaming error → qK, ok → qX
open Option renaming bind_some → qV, isSome → kJ
open Int renaming toNat → qF, le_refl → qC, eq_ofNat_of_zero_le → jR
open Nat renaming le_refl → qD
theorem call_s3{n:Nat}(h:S3 n):∀c x,Ck c->OkX x->x.Kind=7->20*wE x+2<=n+1->Og Ep ((F2 (n+1)).B7 c x) (QV c (6*wE x-2)):=by
 intro c x hc hx h7 hn;show Og Ep (L8 (F2 n) c x) _;unfold L8
 dsimp only[jn]
 have px:=Q2u x
 by_cases o1:x.Name=[105,110]
 . rw[c1 (dt o1)];exact Og.ok ⟨Tg.refl hc.tab,Dp.k0 rfl (by omega)⟩
 rw[c0 (df o1)]
 by_cases o2:x.Name=[111,117,116]
 . rw[c1 (dt o2)];have h1:=hx.ex.2.1 h7 o2;obtain⟨a,ha,ham⟩:=Q7v (k:=0) (show 0<x.Kids.length by omega);have wa:=Z2e ham;refine Og.step ha ?_;exact Og.bind (h.number c a hc (hx.kids a ham) (by omega)) (fun y a1=>Og.ok ⟨a1.1,Dp.k1 (n:=6*wE x-6) rfl (a1.2.mono (by omega)) (by omega)⟩) (fun e he=>Og.err he)
 rw[c0 (df o2)];obtain⟨l,hl,hv⟩:=hc.co;have hg:J5 c.codes x.Name=Q4x l x.Name:=by unfold J5;rw[hl];rfl
 have main:∀b:Bool,(b=true->(J5 c.codes x.Name).isSome=true)->Og Ep (bif !b then((X0 x.Pos 4).bind fun y3=>exC y3 (fun y3=>none) (fun e2=>some (qK (e2,c))))else((idx c.signs ((J5 c.codes x.Name).getD 0)).bind fun u6=>(Y8 c u6.ret).bind fun y4=>(X8 (fun(x12,x13,x14,x15)=>(bif decide (x12<(qQ x.Kids:Int))then((idx x.Kids x12).bind fun u7=>((F2 n).Z3 ({x14 with t:=x15}) u7).bind fun y5=>exL y5 (fun y5=>bif decide (x12<(qQ u6.params:Int))then((idx u6.params x12).bind fun u8=>(P2 y5.2 u7 y5.1 u8).bind fun y6=>exC y6 (fun y6=>(W8 (qQ x13.Kids+qQ ([y6]:List Y1))).bind fun _=>some (Lp.go (qJ .i64 (x12+1),({x13 with Kids:=x13.Kids++([y6]:List Y1)}:Y1),({y5.2 with t:=y5.2.t}:Q0),y5.2.t))) (fun e3=>some (Lp.ret (qK (e3,y5.2)))))else(some (Lp.go (qJ .i64 (x12+1),x13,({y5.2 with t:=y5.2.t}:Q0),y5.2.t)))))else(some (Lp.brk (x12,x13,({x14 with t:=x15}:Q0),x15))):Option (Lp (Int×Y1×Q0×Z5) (Except (Z1×Q0) (Z8×Q0))))) NN ((0:Int),(⟨10,0,0,(J5 c.codes x.Name).getD 0,false,0,false,y4,[]⟩:Y1),c,c.t)).bind fun o=>o.thn (fun(x12,x13,x14,x15)=>bif (qQ x.Kids:Int)!=(qQ u6.params:Int)then((X0 x.Pos 5).bind fun y7=>exC y7 (fun y7=>none) (fun e5=>some (qK (e5,{x14 with t:=x15}))))else((J7 ({x14 with t:=x15}) u6.ret).bind fun y8=>some (qX ((⟨y8,x13,false⟩:Z8),{x14 with t:=x15})))) (fun r=>some r))) (QV c (6*wE x-2)):=by
  intro b hb;cases b with
  |false=>rw[c1 (b:=!false) rfl];exact Q0p hx.pn (by decide)
  |true=>
  rw[c0 (b:=!true) rfl];have hs:=hb rfl;rw[hg]at hs⊢;obtain⟨v,hv2⟩:=Option.isSome_iff_exists.1 hs;rw[hv2];obtain⟨s,hs2,hsm⟩:=O2 (hv _ _ hv2);refine Og.step hs2 ?_;obtain⟨p,hp⟩:=Q0d hc.tab s.ret;refine Og.step hp ?_;have hk:=S7 Q2u x.Kids;have hw:=Y8e x;have hxw:=hx.w;have hkl:x.Kids.length<=10000:=by omega
  refine Og.loop (fun s=>0<=s.1/\s.1<=x.Kids.length/\s.2.1.Kids.length<=s.1/\(∀k∈s.2.1.Kids,Dp (6*wE x-5) k)/\U32 s.2.1.Num/\Tg c {s.2.2.1 with t:=s.2.2.2}) (fun s=>x.Kids.length-s.1.toNat) ⟨qC 0,by dsimp only;omega,by simp,fun k hk=>(by cases hk),Z5d,Tg.refl hc.tab⟩ (by dsimp only;omega) ?_;rintro⟨x12,x13,x14,x15⟩ ⟨i1,i2,i3,i4,i6,i5⟩
  dsimp only at i1 i2 i3 i4 i5 i6⊢
  by_cases hlt:x12<x.Kids.length
  . rw[c1 (dt hlt)];obtain⟨k,hk1,hkm⟩:=O2 ⟨i1,hlt⟩;have wk:=Z2e hkm;have pk:=Q2u k;have ok:=hx.kids k hkm;refine Rn.step hk1 ?_;refine Rn.bindG (h.value _ k (hc.tg i5) ok (by omega)) (fun y5 a5=>?_) (fun e he=>Rn.ok (Og.err he));have tg:=i5.trans a5.1
    by_cases hp2:x12<s.params.length
    . rw[c1 (dt hp2)];obtain⟨q,hq,_⟩:=O2 ⟨i1,hp2⟩;refine Rn.step hq ?_;refine Rn.bindG (Y8y a5.1.tab ok.pn (n:=6*wE x-6) (by omega) (a5.2.mono (by omega)) q) (fun y6 a6=>?_) (fun e he=>Rn.ok (Og.err he));refine Rn.step (E1 (by simp;omega)) ?_;refine Rn.ok ⟨⟨by dsimp only;rw[w64 (by omega)];omega,by dsimp only;rw[w64 (by omega)];omega,by dsimp only;rw[w64 (by omega),qW];simp;omega,?_,i6,tg⟩,by dsimp only;rw[w64 (by omega)];omega⟩;intro z hz
      rcases jQ.1 hz with hz|hz
      . exact i4 z hz
      . rw[kQ.1 hz];exact a6.mono (by omega)
    . rw[c0 (df hp2)];exact Rn.ok ⟨⟨by dsimp only;rw[w64 (by omega)];omega,by dsimp only;rw[w64 (by omega)];omega,by dsimp only;rw[w64 (by omega)];omega,i4,i6,tg⟩,by dsimp only;rw[w64 (by omega)];omega⟩
  . rw[c0 (df hlt)];refine Rn.ok ?_;show Og Ep (bif (qQ x.Kids:Int)!=(qQ s.params:Int)then _ else _) _;cases((x.Kids.length:Int)!=(s.params.length:Int))with
    |true=>rw[c1 (b:=true) rfl];exact Q0p hx.pn (by decide)
    |false=>
     rw[c0 (b:=false) rfl];obtain⟨k,hk⟩:=Z5e {x14 with t:=x15} s.ret;exact Og.step hk (Og.ok ⟨i5,Dp.kk i4 (by omega) i6 (by dsimp only;omega)⟩)
 have hf:=hc.fn;cases hfn:c.fun_ with
 |nil=>exact main _ fun e=>e
 |dead=>rw[hfn]at hf;exact hf.elim
 |some f=>
  rw[hfn]at hf;refine Og.step (x:=false) rfl ?_;rw[c1 (b:=!false) rfl];refine Og.step (x:=f) rfl ?_;obtain⟨v,b,hy,_⟩:=find_g hf x.Name;refine Og.step hy ?_;cases b with
  |true=>exact main false fun e=>by cases e
  |false=>exact main _ fun e=>e
theorem expr_s3{n:Nat}(h:S3 n):∀c x,Ck c->OkX x->20*wE x+3<=n+1->Og Ep ((F2 (n+1)).U0 c x) (QV c (6*wE x-2)):=by
 intro c x hc hx hn;show Og Ep (N9 (F2 n) c x) _;unfold N9
 dsimp only[jn]
 have px:=Q2u x;have har:=hx.ar
 by_cases k1:x.Kind=1
 . rw[c1 (by rw[k1];rfl)];exact Og.ok ⟨Tg.refl hc.tab,Dp.k0 rfl (by omega) hx.e.nu⟩
 rw[c0 (by simpa using k1)]
 by_cases k2:x.Kind=2
 . rw[c1 (by rw[k2];rfl)];exact Og.bind (name_g hc hx.pn) (fun y a=>Og.ok ⟨by dsimp only;rw[a.1];exact Tg.refl hc.tab,a.2.mono (by omega)⟩) (fun e he=>Og.err he)
 rw[c0 (by simpa using k2)]
 by_cases k3:x.Kind=3
 . rw[c1 (by rw[k3];rfl)];rw[k3]at har;exact Og.bind (h.unary c x hc hx har (by omega)) (fun y a=>Og.ok a) (fun e he=>Og.err he)
 rw[c0 (by simpa using k3)]
 by_cases k4:x.Kind=4
 . rw[c1 (by rw[k4];rfl)];rw[k4]at har;exact Og.bind (h.binary c x hc hx har (by omega)) (fun y a=>Og.ok a) (fun e he=>Og.err he)
 rw[c0 (by simpa using k4)]
 by_cases k5:x.Kind=5
 . rw[c1 (by rw[k5];rfl)];rw[k5]at har;exact Og.bind (h.assign c x hc hx har (hx.ex.2.2 k5) (by omega)) (fun y a=>Og.ok a) (fun e he=>Og.err he)
 rw[c0 (by simpa using k5)]
 by_cases k6:x.Kind=6
 . rw[c1 (by rw[k6];rfl)];rw[k6]at har;exact Og.bind (h.cond c x hc hx har (by omega)) (fun y a=>Og.ok a) (fun e he=>Og.err he)
 rw[c0 (by simpa using k6)]
 by_cases k7:x.Kind=7
 . rw[c1 (by rw[k7];rfl)];exact Og.bind (h.call c x hc hx k7 (by omega)) (fun y a=>Og.ok a) (fun e he=>Og.err he)
 rw[c0 (by simpa using k7)]
 by_cases k8:x.Kind=8
 . rw[c1 (by rw[k8];rfl)];rw[k8]at har;have har:2<=x.Kids.length:=har;obtain⟨a,ha,ham⟩:=Q7v (k:=0) (show 0<x.Kids.length by omega);obtain⟨b,hb,hbm⟩:=Q7v (k:=1) (show 1<x.Kids.length by omega);have wa:=Z2e ham;have wb:=Z2e hbm;have oa:=hx.kids a ham;have ob:=hx.kids b hbm;refine Og.step ha ?_;refine Og.bind (h.value c a hc oa (by omega)) (fun y7 a7=>?_) (fun e he=>Og.err he);obtain⟨e,q,hq⟩:=Z4s a7.1.tab y7.1.n;refine Og.step hq ?_;cases q with
   |false=>rw[c1 (b:=!false) rfl];exact Og.step ha (Q0p oa.pn (by decide))
   |true=>
    rw[c0 (b:=!true) rfl];refine Og.step hb ?_;refine Og.bind (h.number y7.2 b (hc.tg a7.1) ob (by omega)) (fun y10 a10=>?_) (fun e he=>Og.err he);obtain⟨s,p,hi⟩:=Z8v a10.1.tab y7.1.term y10.1 e 1;exact Og.step hi (Og.ok ⟨a7.1.trans a10.1,Dp.k2 (n:=6*wE x-6) rfl (a7.2.mono (by omega)) (a10.2.mono (by omega)) (by omega)⟩)
 rw[c0 (by simpa using k8)]
 by_cases k9:x.Kind=9
 . rw[c1 (by rw[k9];rfl)];rw[k9]at har;exact Og.bind (h.member c x hc hx har (by omega)) (fun y a=>Og.ok a) (fun e he=>Og.err he)
 rw[c0 (by simpa using k9)]
 have sz:Og Ep ((K7 c x.Pos x.Type_).bind fun y14=>exC y14 (fun y14=>(U9 y14.2.t y14.1).bind fun y15=>bif y15==0 then((X0 x.Pos 5).bind fun y16=>exC y16 (fun y16=>none) (fun e12=>some (qK (e12,{y14.2 with fun_:=c.fun_}))))else((U9 y14.2.t y14.1).bind fun y17=>some (qX ((⟨1,(⟨1,0,qJ .u32 y17,0,false,0,false,false,[]⟩:Y1),false⟩:Z8),{y14.2 with fun_:=c.fun_})))) (fun e13=>some (qK (e13.1,{e13.2 with fun_:=c.fun_})))) (QV c (6*wE x-2)):=by
  refine Og.bind (Z4i hc.tab hx.pn hx.ty) (fun y a=>?_) (fun e he=>Og.err he);refine Og.step (Q2v _ _) ?_;cases(szT y.2.t y.1==0)with
  |true=>rw[c1 (b:=true) rfl];exact Q0p hx.pn (by decide)
  |false=>
   rw[c0 (b:=false) rfl];refine Og.step (Q2v _ _) ?_;exact Og.ok ⟨by dsimp only;rw[a.back];exact a,Dp.k0 rfl (by omega)⟩
 by_cases k10:x.Kind=10
 . rw[c1 (by rw[k10];rfl),c1 (by rw[k10];rfl)];rw[k10]at har;exact Og.bind (h.step c x hc hx har (by omega)) (fun y a=>Og.ok a) (fun e he=>Og.err he)
 rw[c0 (by simpa using k10)]
 by_cases k11:x.Kind=11
 . rw[c1 (by rw[k11];rfl)];rw[k11]at har;exact Og.bind (h.step c x hc hx har (by omega)) (fun y a=>Og.ok a) (fun e he=>Og.err he)
 rw[c0 (by simpa using k11)];exact sz
theorem Z7m:∀n,S3 n
 |0=>⟨fun _ _ _ _ h=>by omega,fun _ _ _ _ h=>by omega,fun _ _ _ _ _ h=>by omega,fun _ _ _ _ _ _ h=>by omega,fun _ _ _ _ _ h=>by omega,fun _ _ _ _ h=>by omega,fun _ _ _ _ _ _ h=>by omega,fun _ _ _ _ _ h=>by omega,fun _ _ _ _ _ h=>by omega,fun _ _ _ _ _ h=>by omega,fun _ _ _ _ _ h=>by omega,fun _ _ _ _ h=>by omega,fun _ _ _ _ h=>by omega⟩
 |n+1=>⟨asked_s3 (Z7m n),X2h (Z7m n),unary_s3 (Z7m n),both_s3 (Z7m n),X3c (Z7m n),lying_s3 (Z7m n),X3d (Z7m n),cond_s3 (Z7m n),call_s3 (Z7m n),X2j (Z7m n),step_s3 (Z7m n),expr_s3 (Z7m n),value_s3 (Z7m n)⟩
theorem i32_nz{b:Int}(h:U32 b)(h0:b≠0):qJ .i64 (qJ .i32 b)≠0:=by
 unfold U32 at h
 simp only[qJ,IntKind.signed,IntKind.bits]
 simp
 omega
theorem Y0w(k:Int):∃m,Q3n k=some m/\(m<=3):=by
 unfold Q3n
 dsimp only[jn]
 cases(k==1)<;>cases(k==5)<;>cases(k==17)<;>cases(k==6)<;>cases(k==7)<;>cases(k==8)<;>cases(k==9)<;>exact⟨_,rfl,by decide⟩
theorem Z7u:∀(n:Nat)(m:Nat)(t:Y1),Dp n t->n<=m->∃b,(Y1t m).P0 t=some b
 |0,_,_,h,_=>by cases h
 |n+1,0,_,_,h=>by omega
 |n+1,m+1,t,.mk hk nu _,h=>by
  show∃b,Q2o (Y1t m) t=some b
  unfold Q2o
  obtain⟨k,hk1,hk2⟩:=Y0w t.Kind
  rw[hk1,qV]
  by_cases hl:(t.Kids.length:Int)=k
  . rw[c0 (by simpa using hl)]
    refine Exists.elim (Q1n (body:=fun(x1:Int)=>(bif decide (x1<(qQ t.Kids:Int))then((idx t.Kids x1).bind fun u1=>((Y1t m).P0 u1).bind fun y2=>bif !y2 then(some (Lp.ret false))else(some (Lp.go (qJ .i64 (x1+1)))))else(some (Lp.brk x1)):Option (Lp (Int) (Bool)))) (n:=NN) (s:=0) (fun s=>0<=s/\s<=t.Kids.length) (fun s=>t.Kids.length-s.toNat) (fun o=>(∃s,o= .brk s)\/∃r,o= .ret r) ⟨by omega,by omega⟩ (Q7a (by omega)) ?_) ?_
    . rintro s ⟨s0,s1⟩
      by_cases hs:s<t.Kids.length
      . rw[c1 (dt hs)]
        obtain⟨x,hx,hxm⟩:=O2 ⟨s0,hs⟩
        obtain⟨b,hb⟩:=Z7u n m x (hk x hxm) (by omega)
        rw[hx,qV,hb,qV]
        cases b with
        |false=>exact⟨_,rfl,.inr ⟨_,rfl⟩⟩
        |true=>exact⟨_,rfl,⟨by rw[w64 (by omega)];omega,by rw[w64 (by omega)];omega⟩,by rw[w64 (by omega)];omega⟩
      . rw[c0 (df hs)];exact⟨_,rfl,.inl ⟨_,rfl⟩⟩
    . rintro o ⟨ho,hp⟩
      rw[ho,qV]
      rcases hp with⟨s,rfl⟩|⟨r,rfl⟩<;>exact⟨_,rfl⟩
  . rw[c1 (by simpa using hl)]
    exact⟨_,rfl⟩
theorem u32b(op:BinOp)(a b:Int):U32 (bits op .u32 a b):=Z9s _
theorem u1:U32 1:=⟨by decide,by decide⟩
theorem Y1m(b:Bool):∃y,Q6v b=some y/\U32 y:=by
 unfold Q6v;cases b with
 |true=>exact⟨1,rfl,u1⟩
 |false=>exact⟨0,rfl,Z5d⟩
theorem Y8u(a b:Int):∃y,Q9q a b=some y/\U32 y:=by
 unfold Q9q Y0i;cases decide (qJ .i32 a<qJ .i32 b)with
 |true=>exact⟨1,rfl,u1⟩
 |false=>exact⟨0,rfl,Z5d⟩
theorem Y9g(f a b:Int):∃y e,Q8w f a b=some (y,e)/\U32 y:=by
 unfold Q8w;obtain⟨y1,h1,u1'⟩:=Y1m (a==b);obtain⟨y2,h2,u2'⟩:=Y1m (a !=b);obtain⟨y3,h3,u3'⟩:=Y8u a b;obtain⟨y4,h4,u4'⟩:=Y8u b a;rw[h1,h2,h3,h4]
 cases(f==11)<;>cases(f==12)<;>cases(f==13)<;>cases(f==14)<;>cases(f==15)<;>cases(f==16)<;>first
  |exact⟨_,_,rfl,u1'⟩
  |exact⟨_,_,rfl,u2'⟩
  |exact⟨_,_,rfl,u3'⟩
  |exact⟨_,_,rfl,u4'⟩
  |exact⟨_,_,rfl,Z9s _⟩
  |exact⟨_,_,rfl,Z5d⟩
theorem div_any{a b:Int}(hb:U32 b):∃y,Z7d a b=some y/\U32 y:=by
 unfold Z7d
 by_cases h:b=0
 . rw[c1 (by rw[h];rfl)];exact⟨_,rfl,by unfold U32;decide⟩
 . rw[c0 (by simpa using h)];unfold Z3q Z5c;rw[show nz (qJ .i64 (qJ .i32 b))=some () by unfold nz;rw[if_neg (i32_nz hb h)]];exact⟨_,rfl,Z9s _⟩
theorem rem_any{a b:Int}(ha:U32 a)(hb:U32 b):∃y,Z7b a b=some y/\U32 y:=by
 unfold Z7b
 by_cases h:b=0
 . rw[c1 (by rw[h];rfl)];exact⟨_,rfl,ha⟩
 . rw[c0 (by simpa using h)];unfold Z1m Z5b;rw[show nz (qJ .i64 (qJ .i32 b))=some () by unfold nz;rw[if_neg (i32_nz hb h)]];exact⟨_,rfl,Z9s _⟩
theorem Y6q(f:Int){a b:Int}(ha:U32 a)(hb:U32 b):∃y e,Q7z f a b=some (y,e)/\U32 y:=by
 unfold Q7z
 dsimp only[jn]
 have hnn:nn (bits .and .u32 b 31)=some ():=by unfold nn;rw[if_pos (u32b _ _ _).1]
 have hL:∃y,Z4g a b=some y/\U32 y:=by
  unfold Z4g;rw[hnn];exact⟨_,rfl,Z9s _⟩
 have hR:∃y,Z1s a b=some y/\U32 y:=by
  unfold Z1s;rw[hnn];exact⟨_,rfl,Z9s _⟩
 obtain⟨yl,hl,ul⟩:=hL;obtain⟨yr,hr,ur⟩:=hR;obtain⟨yd,hd,ud⟩:=div_any (a:=a) hb;obtain⟨ym,hm,um⟩:=rem_any ha hb;obtain⟨yb,hbt,ub⟩:=Y1m (a==0);obtain⟨yc,ec,hc,uc⟩:=Y9g f a b;rw[hl,hr,hd,hm,hbt,hc]
 have fin:∀{c:Bool}{X Y:Option (Int×Int)},(∃y e,X=some (y,e)/\U32 y)->(∃y e,Y=some (y,e)/\U32 y)->∃y e,(bif c then X else Y)=some (y,e)/\U32 y:=by
  intro c X Y h k;cases c<;>assumption
 repeat'(first
  |exact⟨_,_,rfl,Z9s _⟩
  |exact⟨_,_,rfl,u32b _ _ _⟩
  |exact⟨_,_,rfl,Z5d⟩
  |exact⟨_,_,rfl,ul⟩
  |exact⟨_,_,rfl,ur⟩
  |exact⟨_,_,rfl,ud⟩
  |exact⟨_,_,rfl,um⟩
  |exact⟨_,_,rfl,ub⟩
  |exact⟨_,_,rfl,uc⟩
  |refine fin ?_ ?_)
theorem Y7g{n m:Nat}{t:Y1}(hd:Dp (n+1) t)(hm:n<=m)(h:(Y1t (m+1)).P0 t=some true):Q3n t.Kind=some (t.Kids.length:Int)/\∀x∈t.Kids,(Y1t m).P0 x=some true:=by
 cases hd with
 |mk hk nu _=>
 have h:Q2o (Y1t m) t=some true:=h;unfold Q2o at h;obtain⟨k,hk1,hk2⟩:=Y0w t.Kind;rw[hk1,qV]at h
 by_cases hl:(t.Kids.length:Int)=k
 . rw[c0 (by simpa using hl)]at h;refine⟨by rw[hk1,hl],?_⟩
   have key:=loop_all (R:=Bool) (A:=Bool) (body:=fun(x1:Int)=>(bif decide (x1<(qQ t.Kids:Int))then((idx t.Kids x1).bind fun u1=>((Y1t m).P0 u1).bind fun y2=>bif !y2 then(some (Lp.ret false))else(some (Lp.go (qJ .i64 (x1+1)))))else(some (Lp.brk x1)):Option (Lp (Int) (Bool)))) (f:=fun o=>o.thn (fun(x1:Int)=>some true) (fun r=>some r)) (n:=t.Kids.length) (X:=some (decide (∀k (hk:k<t.Kids.length),(Y1t m).P0 t.Kids[k]=some true))) (by omega)
    (fun k=>if hk:k<t.Kids.length then decide ((Y1t m).P0 t.Kids[k]=some true)else false) false
    (fun k hk2 _=>by
     rw[c1 (dlt hk2),P6 hk2,qV,dif_pos hk2];obtain⟨b,hb⟩:=Z7u n m t.Kids[k] (hk _ (jT hk2)) hm;rw[hb,qV];cases b<;>rfl)
    (by rw[c0 (dge _)])
    (fun hall=>by
     show some true=_
     congr 1
     symm
     refine decide_eq_true fun k hk2=>?_;have:=hall k hk2;rw[dif_pos hk2]at this;exact of_decide_eq_true this)
    (fun⟨k,hk2,hp⟩=>by
     show some false=_
     congr 1
     symm
     refine decide_eq_false fun hall=>?_;rw[dif_pos hk2]at hp;exact absurd (hall k hk2) (of_decide_eq_false hp))
   rw[key]at h;have hall:=of_decide_eq_true (Option.some.inj h);intro x hx;obtain⟨k,hk2,rfl⟩:=List.getElem_of_mem hx;exact hall k hk2
 . rw[c1 (by simpa using hl)]at h;cases h
theorem Y9a:∀(n m M:Nat)(t:Y1),Dp n t->n<=m->n<=M->(Y1t M).P0 t=some true->∃y e,(rec5 m).I7 t=some (y,e)/\U32 y
 |0,_,_,_,h,_,_,_=>by cases h
 |n+1,0,_,_,_,h,_,_=>by omega
 |n+1,m+1,0,_,_,_,h,_=>by omega
 |n+1,m+1,M+1,t,hd,hm,hM,hn=>by
  obtain⟨ho,hk⟩:=Y7g hd (by omega) hn
  obtain⟨dk,nu⟩:(∀k∈t.Kids,Dp n k)/\U32 t.Num:=match hd with| .mk a b _=>⟨a,b⟩
  show∃y e,Z0p (rec5 m) t=some (y,e)/\U32 y
  unfold Z0p
  dsimp only[jn]
  by_cases k1:t.Kind=1
  . rw[c1 (by rw[k1];rfl)];exact⟨_,_,rfl,nu⟩
  rw[c0 (by simpa using k1)]
  have kid:∀j:Nat,j<t.Kids.length->∃x y e,idx t.Kids (j:Int)=some x/\(rec5 m).I7 x=some (y,e)/\U32 y:=fun j hj=>by
   obtain⟨y,e,h1,h2⟩:=Y9a n m M t.Kids[j] (dk _ (jT hj)) (by omega) (by omega) (hk _ (jT hj))
   exact⟨_,y,e,P6 hj,h1,h2⟩
  have hlen:(t.Kind=5\/t.Kind=17)/\t.Kids.length=1\/(t.Kind=6\/t.Kind=7\/t.Kind=8)/\t.Kids.length=2\/t.Kind=9/\t.Kids.length=3:=by
   unfold Q3n at ho
   dsimp only[jn]at ho
   by_cases a5:t.Kind=5
   . rw[a5]at ho;exact .inl ⟨.inl a5,by have:=Option.some.inj ho;omega⟩
   by_cases a17:t.Kind=17
   . rw[a17]at ho;exact .inl ⟨.inr a17,by have:=Option.some.inj ho;omega⟩
   by_cases a6:t.Kind=6
   . rw[a6]at ho;exact .inr (.inl ⟨.inl a6,by have:=Option.some.inj ho;omega⟩)
   by_cases a7:t.Kind=7
   . rw[a7]at ho;exact .inr (.inl ⟨.inr (.inl a7),by have:=Option.some.inj ho;omega⟩)
   by_cases a8:t.Kind=8
   . rw[a8]at ho;exact .inr (.inl ⟨.inr (.inr a8),by have:=Option.some.inj ho;omega⟩)
   by_cases a9:t.Kind=9
   . rw[a9]at ho;exact .inr (.inr ⟨a9,by have:=Option.some.inj ho;omega⟩)
   . rw[beq_eq_false_iff_ne.2 k1,beq_eq_false_iff_ne.2 a5,beq_eq_false_iff_ne.2 a17,beq_eq_false_iff_ne.2 a6,beq_eq_false_iff_ne.2 a7,beq_eq_false_iff_ne.2 a8,beq_eq_false_iff_ne.2 a9]at ho;have:=Option.some.inj ho;omega
  obtain⟨x0,y0,e0,h0,f0,u0⟩:=kid 0 (by omega);rw[show idx t.Kids 0=some x0 from h0,qV,f0,qV]
  dsimp only
  by_cases he:e0=0
  case neg=>rw[c1 (by simpa using he)];exact⟨_,_,rfl,Z5d⟩
  rw[c0 (by rw[he];rfl)]
  have two:2<=t.Kids.length->∃y e,((idx t.Kids 1).bind fun u4=>((rec5 m).I7 u4).bind fun y6=>bif y6.2 !=0 then(some ((0:Int),y6.2))else(bif t.Kind !=6 then((Q6v (y6.1 !=0)).bind fun y7=>some (y7,(0:Int)))else((Q7z t.Fn y0 y6.1).bind fun y8=>some (y8.1,y8.2))))=some (y,e)/\U32 y:=fun h2=>by
   obtain⟨x1,y1,e1,h1,f1,u1'⟩:=kid 1 (by omega);rw[show idx t.Kids 1=some x1 from h1,qV,f1,qV]
   dsimp only
   cases(e1 !=0)with
   |true=>exact⟨_,_,rfl,Z5d⟩
   |false=>
    obtain⟨b,hb,ub⟩:=Y1m (y1 !=0);obtain⟨ya,ea,ha,ua⟩:=Y6q t.Fn u0 u1';rw[hb,ha];cases(t.Kind !=6)with
    |true=>exact⟨_,_,rfl,ub⟩
    |false=>exact⟨_,_,rfl,ua⟩
  obtain⟨b0,hb0,ub0⟩:=Y1m (y0 !=0)
  rcases hlen with⟨a|a,hl⟩|⟨a|a|a,hl⟩|⟨a,hl⟩<;>rw[a]at two⊢
  . obtain⟨ya,ea,ha,ua⟩:=Y6q t.Fn u0 Z5d;rw[ha];exact⟨_,_,rfl,ua⟩
  . exact⟨_,_,rfl,u32b _ _ _⟩
  . exact two (by omega)
  . rw[hb0];cases hq:((y0 !=0)==((7:Int)==8))with
    |true=>exact⟨b0,0,by simp[],ub0⟩
    |false=>
     have:=two (by omega)
     simpa[hq]using this
  . rw[hb0];cases hq:((y0 !=0)==((8:Int)==8))with
    |true=>exact⟨b0,0,by simp[],ub0⟩
    |false=>
     have:=two (by omega)
     simpa[hq]using this
  . obtain⟨x1,y1,e1,h1,f1,u1'⟩:=kid 1 (by omega);obtain⟨x2,y2,e2,h2,f2,u2'⟩:=kid 2 (by omega);rw[show idx t.Kids 1=some x1 from h1,show idx t.Kids 2=some x2 from h2,qV,qV,f1,f2];cases(y0 !=0)with
    |true=>exact⟨_,_,rfl,u1'⟩
    |false=>exact⟨_,_,rfl,u2'⟩
theorem Fold_any{n:Nat}{t:Y1}(h:Dp n t)(hn:n<=NN):∃y e,Z3m t=some (y,e)/\U32 y:=by
 unfold Z3m;obtain⟨b,hb⟩:=Z7u n NN t h hn;rw[show P0 t=some b from hb,qV];cases b with
 |false=>exact⟨_,_,rfl,Z5d⟩
 |true=>
  obtain⟨y,e,hf,hu⟩:=Y9a n NN NN t h hn hn hb;rw[c0 (b:=!true) rfl,show I7 t=some (y,e)from hf];exact⟨_,_,rfl,hu⟩
theorem Z8q{c:Q0}(hc:Ck c){x:Y2}(hx:OkX x):Og Ep (Z3 c x) (QV c (6*wE x)):=(Z7m NN).value c x hc hx (by have:=hx.w;unfold NN;omega)
theorem expr_any{c:Q0}(hc:Ck c){x:Y2}(hx:OkX x):Og Ep (U0 c x) (QV c (6*wE x-2)):=(Z7m NN).expr c x hc hx (by have:=hx.w;unfold NN;omega)
theorem Y6o{c:Q0}(hc:Ck c){x:Y2}(hx:OkX x):Og Ep (V5 c x) (QT c (6*wE x)):=(Z7m NN).asked c x hc hx (by have:=hx.w;unfold NN;omega)
theorem X0j{c:Q0}(hc:Ck c){x:Y2}(hx:OkX x):Og Ep (V2 c x) (QT c (6*wE x)):=(Z7m NN).number c x hc hx (by have:=hx.w;unfold NN;omega)
theorem sz_in{t:Z5}{n:Int}(h:szT t n≠0):0<=n/\n<t.list.length:=by
 by_cases h0:0<=n/\n<t.list.length
 . exact h0
 . exact absurd (by unfold szT;rw[Z4p h0]) h
theorem Gr.ty{t t':Z5}(h:Gr t t'){n:Int}(hn:0<=n/\n<t.list.length):tyT t' n=tyT t n:=by
 obtain⟨x,hx,_⟩:=O2 hn;unfold tyT;rw[h.idx hx,hx]
theorem Gr.pa{t t':Z5}(h:Gr t t'){n:Int}(hn:0<=n/\n<t.list.length):paT t' n=paT t n:=by
 unfold paT;rw[h.ty hn]
theorem X3a(w b:Int)(k:Int)(l:List Int)(hk:0<=k/\k<=100000)(hw:0<=w/\w<=32768)(hl:w=0\/w*k+w<=l.length)(hk2:w*k<=100000000)(hkw:0<=w*k):∃l2 x,X8 (fun(x26,x27)=>(bif decide (x27<w)then((nn (qJ .i64 (8*x27))).bind fun _=>(idx x26 (qJ .i64 ((qJ .i64 (w*k))+x27))).bind fun u5=>(idx x26 (qJ .i64 ((qJ .i64 (w*k))+x27))).bind fun u6=>some (Lp.go (qP x26 (qF (qJ .i64 ((qJ .i64 (w*k))+x27))) (qJ .u8 (Int.fdiv b (2^(min (qF (qJ .i64 (8*x27))) (IntKind.bits .u32))))),qJ .i64 (x27+1))))else(some (Lp.brk (x26,x27))):Option (Lp ((List Int)×Int) (Unit)))) NN (l,(0:Int))=some (.brk (l2,x))/\l2.length=l.length:=by
 refine Exists.elim (Q1n (body:=fun(x26,x27)=>(bif decide (x27<w)then((nn (qJ .i64 (8*x27))).bind fun _=>(idx x26 (qJ .i64 ((qJ .i64 (w*k))+x27))).bind fun u5=>(idx x26 (qJ .i64 ((qJ .i64 (w*k))+x27))).bind fun u6=>some (Lp.go (qP x26 (qF (qJ .i64 ((qJ .i64 (w*k))+x27))) (qJ .u8 (Int.fdiv b (2^(min (qF (qJ .i64 (8*x27))) (IntKind.bits .u32))))),qJ .i64 (x27+1))))else(some (Lp.brk (x26,x27))):Option (Lp ((List Int)×Int) (Unit)))) (n:=NN) (s:=(l,(0:Int))) (fun s=>s.1.length=l.length/\0<=s.2/\s.2<=w) (fun s=>w.toNat-s.2.toNat) (fun o=>∃l2 x,o= .brk (l2,x)/\l2.length=l.length) ⟨rfl,qC 0,by dsimp only;omega⟩ (Q7a (by dsimp only;omega)) ?_) ?_
 . rintro⟨x26,x27⟩ ⟨i1,i2,i3⟩
   dsimp only at i1 i2 i3⊢
   by_cases hs:x27<w
   . rw[c1 (dt hs),w64 (x:=8*x27) (by omega),show nn (8*x27)=some () by unfold nn;rw[if_pos (by omega)],qV,w64 (x:=w*k) (by omega),w64 (x:=w*k+x27) (by omega)];obtain⟨q,hq,_⟩:=O2 (l:=x26) (n:=w*k+x27) ⟨by omega,by rw[i1];rcases hl with hl|hl<;>omega⟩
     rw[hq,qV,qV];exact⟨_,rfl,⟨by simpa using i1,by dsimp only;rw[w64 (by omega)];omega,by dsimp only;rw[w64 (by omega)];omega⟩,by dsimp only;rw[w64 (by omega)];omega⟩
   . rw[c0 (df hs)];exact⟨_,rfl,_,_,rfl,i1⟩
 . rintro o ⟨ho,l2,x,rfl,hl2⟩;exact⟨l2,x,ho,hl2⟩
theorem data_g{c:Q0}(hc:Ck c){v:G9}(hv:OkV v)(hx:∀x∈v.Init,wE x<=10000)(hl:v.Init.length<=5000){n:Int}(hn:szT c.t n≠0):Og Ep (Q3p c v n) (fun x=>Tg c x.2):=by
 have hin:=sz_in hn;have hsz:=X0b hc.tab n;unfold Q3p
 dsimp only[jn]
 refine Og.step (Q2v _ _) ?_;refine Og.step (x:=List.replicate (szT c.t n).toNat 0) (by unfold repl;rw[if_pos (by omega)]) ?_;refine Og.bind (X1o hc.tab hv n) (fun l hi=>?_) (fun e he=>Og.err he)
 have hll:l.length<=5000:=by
  rcases hi.1 with h|h
  . rw[h];simp
  . rw[h];exact hl
 have hox:∀x∈l,OkX x:=by
  intro x hm
  rcases hi.1 with h|h
  . rw[h]at hm;cases hm
  . rw[h]at hm;exact⟨hv.init x hm,hx x hm⟩
 refine Og.loop (fun s=>s.1.length=(szT c.t n).toNat/\0<=s.2.1/\s.2.1<=l.length/\Tg c {s.2.2.1 with t:=s.2.2.2}) (fun s=>l.length-s.2.1.toNat) ⟨by simp,qC 0,by dsimp only;omega,Tg.refl hc.tab⟩ (by dsimp only;omega) ?_;rintro⟨x1,x11,x12,x13⟩ ⟨i1,i2,i3,i4⟩
 dsimp only at i1 i2 i3 i4⊢
 by_cases hs:x11<l.length
 . rw[c1 (dt hs)];obtain⟨u,hu,hum⟩:=O2 ⟨i2,hs⟩;have ou:=hox u hum;have hne:l≠[]:=fun e=>by rw[e]at hs;simp at hs;omega
   have hw:=(hi.2 hne).2;refine Rn.step hu ?_;refine Rn.bindG (Z8q (hc.tg i4) ou) (fun y3 a3=>?_) (fun e he=>Rn.ok (Og.err he));have tg:=i4.trans a3.1;refine Rn.step (Y2v a3.1.tab n) ?_;have pu:=Q2u u;refine Rn.bindG (Z4h a3.1.tab ou.pn (n:=6*wE u) (by omega) a3.2 _) (fun y5 a5=>?_) (fun e he=>Rn.ok (Og.err he));have how:=ou.w;obtain⟨b,e,hf,hb⟩:=Fold_any a5 (by unfold NN;omega);refine Rn.step hf ?_;refine Y3x ou.pn (fun _=>?_) (fun e he=>Og.err he);refine Rn.step (Y2v a3.1.tab n) ?_;obtain⟨w,hwc,hw1,hw2⟩:=Y4t a3.1.tab (paT y3.2.t n);refine Rn.step hwc ?_;have hpa:paT y3.2.t n=paT c.t n:=tg.gr.pa hin;have hp0:=(hi.2 hne).1
   have hwe:w=0\/w=szT c.t (paT c.t n):=by
    by_cases h0:w=0
    . exact .inl h0
    . right
      rw[hw1 h0,hpa];exact tg.gr.sz (sz_in hp0)
   have hmul:w=0\/w*x11+w<=(x1.length:Int):=by
    rcases hwe with h|h
    . exact .inl h
    . right
      have h1:w*(x11+1)<=w*(l.length:Int):=Int.mul_le_mul_of_nonneg_left (by omega) hw2.1;have h2:w*(x11+1)=w*x11+w:=by rw[Int.mul_add,Int.mul_one]
      rw[h]at h1 h2⊢;omega
   have hk0:0<=w*x11:=Int.mul_nonneg hw2.1 i2
   have hk1:w*x11<=100000000:=by
    rcases hmul with h|h
    . rw[h];simp
    . omega
   obtain⟨l2,x,hlo,hl2⟩:=X3a w b x11 x1 (by omega) hw2 hmul hk1 hk0;refine Rn.step hlo ?_;exact Rn.ok ⟨⟨by dsimp only;rw[hl2];exact i1,by dsimp only;rw[w64 (by omega)];omega,by dsimp only;rw[w64 (by omega)];omega,tg⟩,by dsimp only;rw[w64 (by omega)];omega⟩
 . rw[c0 (df hs)];exact Rn.ok (Og.ok i4)
theorem Y4b{K V:Type}[DecidableEq K](k k':K)(v:V):∀l:List (K×V),Q4x (Q4l l k v) k'=if k'=k then some v else Q4x l k'
 |[]=>by
  unfold Q4l Q4x
  dsimp only
  split
  . rfl
  . unfold Q4x;rfl
 |p::l=>by
  unfold Q4l
  by_cases h:k=p.1
  . rw[if_pos h]
    unfold Q4x
    dsimp only
    by_cases e:k'=k
    . rw[if_pos e,if_pos e]
    . rw[if_neg e,if_neg e,if_neg (fun q=>e (q.trans h.symm))]
  . rw[if_neg h]
    unfold Q4x
    by_cases e:k'=p.1
    . rw[if_pos e,if_neg (fun q=>h (q.symm.trans e)),if_pos e]
    . rw[if_neg e,if_neg e]
      exact Y4b k k' v l
theorem Y8t{K V:Type}[DecidableEq K](k:K)(v:V):∀l:List (K×V),Q4x l k=none->(Q4l l k v).length=l.length+1
 |[],_=>rfl
 |p::l,h=>by
  unfold Q4x at h
  unfold Q4l
  by_cases e:k=p.1
  . rw[if_pos e]at h;cases h
  . rw[if_neg e]at h
    rw[if_neg e,qY,Y8t k v l h,qY]
theorem MpO.put{m:Option (List (List UInt8×Int))}{n:Nat}(h:MpO m n){k:List UInt8}{l:List (List UInt8×Int)}(hl:m=some l)(hn:Q9t m=n)(hk:Q4x l k=none):MpO (some (Q4l l k (n:Int))) (n+1)/\Q9t (some (Q4l l k (n:Int)))=n+1:=by
 obtain⟨l',hl',hv⟩:=h;rw[hl]at hl';cases hl';have hlen:l.length=n:=by rw[hl]at hn;exact hn
 refine⟨⟨_,rfl,fun k' v h=>?_⟩,by unfold Q9t;rw[Option.getD_some,Y8t _ _ _ hk,hlen]⟩;rw[Y4b]at h
 split at h
 . cases h;omega
 . have:=hv _ _ h;omega
theorem isSome_none{o:Option Int}(h:o.isSome=false):o=none:=by cases o with
 |none=>rfl
 |some x=>cases h
theorem X1m{c:Q0}(hc:Ck c){p:Pos}(hp:Pn p)(nm:List UInt8):Og Ep (Q2s c p nm) (fun c'=>∃gm,c.globals=some gm/\Q4x gm nm=none/\c.gtypes.length<200/\c'={c with globals:=some (Q4l gm nm (c.gtypes.length:Int))}):=by
 unfold Q2s;obtain⟨gm,hg,hv⟩:=hc.gl;have hgn:=hc.gn;have hlg:=hc.lg;rw[hgn];cases hb:((J5 c.globals nm).isSome||(J5 c.codes nm).isSome)with
 |true=>rw[c1 (b:=true) rfl];exact Z0o hp (by decide)
 |false=>
  rw[c0 (b:=false) rfl]
  simp only[Bool.or_eq_false_iff]at hb
  have h1:=isSome_none hb.1;unfold J5 at h1;rw[hg,qV]at h1
  by_cases h2:c.gtypes.length=200
  . rw[c1 (by rw[h2];rfl)];exact Z0o hp (by decide)
  . rw[c0 (beq_eq_false_iff_ne.2 (by omega)),hg,qV];exact Og.ok ⟨gm,rfl,h1,by omega,rfl⟩
theorem named2_g{c:Q0}(hc:Ck c){p:Pos}(hp:Pn p)(nm:List UInt8):Og Ep (F7 c p nm) (fun c'=>∃gm,c.codes=some gm/\Q4x gm nm=none/\c.signs.length<200/\c'={c with codes:=some (Q4l gm nm (c.signs.length:Int))}):=by
 unfold F7;obtain⟨gm,hg,hv⟩:=hc.co;have hgn:=hc.cn;have hlg:=hc.lc;rw[hgn];cases hb:((J5 c.globals nm).isSome||(J5 c.codes nm).isSome)with
 |true=>rw[c1 (b:=true) rfl];exact Z0o hp (by decide)
 |false=>
  rw[c0 (b:=false) rfl]
  simp only[Bool.or_eq_false_iff]at hb
  have h1:=isSome_none hb.2;unfold J5 at h1;rw[hg,qV]at h1
  by_cases h2:c.signs.length=200
  . rw[c1 (by rw[h2];rfl)];exact Z0o hp (by decide)
  . rw[c0 (beq_eq_false_iff_ne.2 (by omega)),hg,qV];exact Og.ok ⟨gm,rfl,h1,by omega,rfl⟩
structure Gl(c c':Q0):Prop where
 ck:Ck c'
 f:c'.fun_=c.fun_
 d:c'.u.Data.length=c.u.Data.length+1
 gr:Gr c.t c'.t
 s:c'.signs=c.signs
theorem Y8z{c:Q0}(hc:Ck c){v:G9}(hv:OkV v)(hd:v.Dims.length<=5000)(hx:∀x∈v.Init,wE x<=10000)(hl:v.Init.length<=5000)(hdl:c.u.Data.length<=100000):Og Ep (L6 c v) (Gl c):=by
 unfold L6;refine Og.bind (Y6t hc.tab hv hd) (fun y1 a1=>?_) (fun e he=>Og.err he);rw[a1.1.back];have hc1:=hc.tg a1.1;refine Og.bind (X1m hc1 hv.pos v.Name) (fun y2 a2=>?_) (fun e he=>Og.err he);obtain⟨gm,hg,hn,hlt,rfl⟩:=a2;have hf:y1.2.fun_=c.fun_:=a1.1.fun_eq;obtain⟨s,hs⟩:=Y3l (c:={({y1.2 with globals:=some (Q4l gm v.Name (y1.2.gtypes.length:Int))}:Q0)with fun_:=c.fun_}) hc1.tab v.Name y1.1;refine Og.step hs ?_;have hug:=hc1.ug;refine Og.step (E1 (by simp;omega)) ?_;refine Og.step (E1 (by simp;omega)) ?_;have put:=hc1.gl.put hg hc1.gn hn
 have ck:Ck {({y1.2 with globals:=some (Q4l gm v.Name (y1.2.gtypes.length:Int))}:Q0)with u:={y1.2.u with Globals:=y1.2.u.Globals++[s]},gtypes:=y1.2.gtypes++[y1.1],fun_:=c.fun_}:=
  ⟨hc1.tab,by simpa using put.1,hc1.co,hc.fn,by simpa using put.2,hc1.cn,by simp;omega,hc1.uc,by simp;omega,hc1.lc⟩
 refine Og.bind (data_g ck hv hx hl a1.2) (fun y4 a4=>?_) (fun e he=>Og.err he);have he:=a4.eq;have hck:=ck.tg a4;have hu:y1.2.u=c.u:=by rw[a1.1.eq]
 refine Og.step (E1 (by rw[he];simp[hu];omega)) ?_;refine Og.ok ⟨⟨hck.tab,hck.gl,hck.co,hck.fn,hck.gn,hck.cn,hck.ug,hck.uc,hck.lg,hck.lc⟩,by dsimp only;rw[he],by dsimp only;rw[he];simp[hu],a1.1.gr.trans a4.gr,by dsimp only;rw[he];dsimp only;rw[a1.1.eq]⟩
structure Tt(c c':Q0):Prop where
 eq:c'={c with t:=c'.t}
 tab:Tab c'.t
theorem Tt.refl{c:Q0}(h:Tab c.t):Tt c c:=⟨rfl,h⟩
theorem Tt.tg{a b c:Q0}(h:Tt a b)(g:Tg b c):Tt a c:=⟨by rw[g.eq,h.eq],g.tab⟩
theorem Tt.put{a b:Q0}(h:Tt a b){t:Z5}(ht:Tab t):Tt a {b with t:=t}:=⟨by
 have e:=h.eq
 generalize b.t=t' at e
 subst e
 rfl,ht⟩
theorem Ck.tt{c c':Q0}(h:Ck c)(g:Tt c c'):Ck c':=by
 have e:=g.eq;have t:=g.tab
 generalize c'.t=t' at e t
 subst e;exact⟨t,h.gl,h.co,h.fn,h.gn,h.cn,h.ug,h.uc,h.lg,h.lc⟩
structure OkG(s:Q2n):Prop where
 pos:Pn s.Pos
 f:∀v∈s.Fields,OkV v/\v.Dims.length<=5000
 l:s.Fields.length<=5000
theorem Y5p{c:Q0}(hc:Tab c.t){l:List Q2n}(hl:l.length<=5000)(hs:∀s∈l,OkG s):Og Ep (Q1j c l) (Tt c):=by
 unfold Q1j;refine Og.loop (fun s=>0<=s.1/\s.1<=l.length/\Tab s.2) (fun s=>l.length-s.1.toNat) ⟨qC 0,by dsimp only;omega,hc⟩ (by dsimp only;omega) ?_;rintro⟨x2,x3⟩ ⟨i1,i2,i3⟩
 dsimp only at i1 i2 i3⊢
 by_cases h0:x2<l.length
 . rw[c1 (dt h0)];obtain⟨s,hs1,hsm⟩:=O2 ⟨i1,h0⟩;refine Rn.step hs1 ?_;obtain⟨m,e,t',hy,g1⟩:=open_any i3 s.Name;refine Rn.step hy ?_;exact Y3x (hs s hsm).pos (fun _=>Rn.ok ⟨⟨by dsimp only;rw[w64 (by omega)];omega,by dsimp only;rw[w64 (by omega)];omega,g1⟩,by dsimp only;rw[w64 (by omega)];omega⟩) (fun e he=>Og.err he)
 rw[c0 (df h0)];refine Rn.ok ?_;refine Og.loop (fun s=>0<=s.1/\s.1<=l.length/\Tt c {s.2.1 with t:=s.2.2}) (fun s=>l.length-s.1.toNat) ⟨qC 0,by dsimp only;omega,(Tt.refl hc).put i3⟩ (by dsimp only;omega) ?_;rintro⟨x12,x13,x14⟩ ⟨j1,j2,j3⟩
 dsimp only at j1 j2 j3⊢
 by_cases h1:x12<l.length
 . rw[c1 (dt h1)];obtain⟨s,hs1,hsm⟩:=O2 ⟨j1,h1⟩;have os:=hs s hsm;have osl:=os.l;refine Rn.step hs1 ?_
   refine Exists.elim (Q1n (body:=(fun(x15,x24,x25,x26)=>(bif decide (x24<(qQ s.Fields:Int))then((idx s.Fields x24).bind fun u4=>(M0 ({x25 with t:=x26}) u4).bind fun y3=>exL y3 (fun y3=>(W8 (qQ x15+qQ ([(⟨u4.Name,y3.1,0⟩:K5)]:List K5))).bind fun _=>some (Lp.go (x15++([(⟨u4.Name,y3.1,0⟩:K5)]:List K5),qJ .i64 (x24+1),y3.2,y3.2.t))))else(some (Lp.brk (x15,x24,{x25 with t:=x26},x26))):Option (Lp ((List K5)×Int×Q0×Z5) (Except (Z1×Q0) (Q0)))))) (n:=NN) (s:=([],(0:Int),({x13 with t:=x14}:Q0),x14))
    (fun s'=>(0<=s'.2.1/\s'.2.1<=s.Fields.length)/\s'.1.length<=s'.2.1/\Tt c {s'.2.2.1 with t:=s'.2.2.2}) (fun s'=>s.Fields.length-s'.2.1.toNat)
    (fun o=>match o with
     | .go _=>False
     | .brk s'=>s'.1.length<=5000/\Tt c {s'.2.2.1 with t:=s'.2.2.2}
     | .ret z=>∃e,z=qK e/\Ep e) ⟨⟨qC 0,by dsimp only;omega⟩,by simp,j3⟩ (Q7a (by dsimp only;omega)) ?_) ?_
   . rintro⟨x15,x24,x25,x26⟩ ⟨k1,k2,k3⟩
     dsimp only at k1 k2 k3⊢
     by_cases h2:x24<s.Fields.length
     . rw[c1 (dt h2)];obtain⟨v,hv,hvm⟩:=O2 ⟨k1.1,h2⟩;have ov:=os.f v hvm;obtain⟨z,ez,hz⟩:=Y9f k3.tab ov.1 ov.2;rw[hv,qV,ez,qV];cases z with
       |error e=>exact⟨_,rfl,_,rfl,hz⟩
       |ok y=>
        dsimp only[exL,exE,exC]
        rw[E1 (by simp;omega),qV];exact⟨_,rfl,⟨by dsimp only;rw[w64 (by omega)];omega,by dsimp only;rw[w64 (by omega)];simp;omega,k3.tg hz⟩,by dsimp only;rw[w64 (by omega)];omega⟩
     . rw[c0 (df h2)];exact⟨_,rfl,by dsimp only;omega,k3⟩
   . rintro o ⟨ho,hp⟩;rw[ho,qV];cases o with
     |go _=>exact hp.elim
     |ret z=>
      obtain⟨e,rfl,he⟩:=hp;exact Rn.ok (Og.err he)
     |brk s'=>
      obtain⟨x15,x24,x25,x26⟩:=s';obtain⟨p1,p2⟩:=hp
      dsimp only at p1 p2
      obtain⟨m,e,t',hy,g1⟩:=X0c p2.tab s.Name p1;refine Rn.step hy ?_;refine Y3x os.pos (fun _=>Rn.ok ⟨⟨by dsimp only;rw[w64 (by omega)];omega,by dsimp only;rw[w64 (by omega)];omega,p2.put g1⟩,by dsimp only;rw[w64 (by omega)];omega⟩) (fun e he=>Og.err he)
 . rw[c0 (df h1)];exact Rn.ok (Og.ok j3)
structure Hd(c:Q0)(n:Nat)(c':Q0):Prop where
 ck:Ck c'
 f:c'.fun_=c.fun_
 d:c'.u.Data=c.u.Data
 s:∃s,c'.signs=c.signs++[s]/\s.params.length=n
structure OkH(f:I1):Prop where
 pos:Pn f.Pos
 r:OkT f.Ret
 p:∀v∈f.Params,OkV v
 l:f.Params.length<=5000
theorem Y8x{c:Q0}(hc:Ck c){f:I1}(hf:OkH f):Og Ep (P1 c f) (Hd c f.Params.length):=by
 have hpl:=hf.l;unfold P1;refine Og.bind (Z4i hc.tab hf.pos hf.r) (fun y1 a1=>?_) (fun e he=>Og.err he);have hc1:=hc.tg a1
 have cont:Og Ep ((F7 y1.2 f.Pos f.Name).bind fun y4=>exE y4 (fun y4=>bif decide (6<(qQ f.Params:Int))then((X0 f.Pos 2).bind fun y5=>exC y5 (fun y5=>none) (fun e2=>some (qK (e2,y4))))else((X8 (fun(x10,x11,x12,x13)=>(bif decide (x10<(qQ f.Params:Int))then((idx f.Params x10).bind fun u3=>(K7 ({x12 with t:=x13}) u3.Pos u3.Type_).bind fun y6=>exL y6 (fun y6=>(V1 y6.2.t y6.1).bind fun y7=>bif !y7 then((X0 u3.Pos 5).bind fun y8=>exC y8 (fun y8=>none) (fun e3=>some (Lp.ret (qK (e3,y6.2)))))else((W8 (qQ x11.params+qQ ([y6.1]:List Int))).bind fun _=>some (Lp.go (qJ .i64 (x10+1),(⟨x11.ret,x11.params++([y6.1]:List Int)⟩:G8),y6.2,y6.2.t)))))else(some (Lp.brk (x10,x11,{x12 with t:=x13},x13))):Option (Lp (Int×G8×Q0×Z5) (Except (Z1×Q0) (Q0))))) NN ((0:Int),(⟨y1.1,[]⟩:G8),y4,y4.t)).bind fun o=>o.thn (fun(x10,x11,x12,x13)=>(W8 (qQ x12.signs+qQ ([x11]:List G8))).bind fun _=>(W8 (qQ x12.u.Codes+qQ ([(⟨f.Name,y1.1==0,(qQ f.Params:Int),[],[]⟩:Q1m)]:List Q1m))).bind fun _=>some (qX ({x12 with t:=x13,u:={x12.u with Codes:=x12.u.Codes++([(⟨f.Name,y1.1==0,(qQ f.Params:Int),[],[]⟩:Q1m)]:List Q1m)},signs:=x12.signs++([x11]:List G8)}))) (fun r=>some r)))) (Hd c f.Params.length):=by
  refine Og.bind (named2_g hc1 hf.pos f.Name) (fun y2 a2=>?_) (fun e he=>Og.err he);obtain⟨gm,hg,hn,hlt,rfl⟩:=a2;cases decide (6<(f.Params.length:Int))with
  |true=>rw[c1 (b:=true) rfl];exact Q0p hf.pos (by decide)
  |false=>
  rw[c0 (b:=false) rfl];refine Og.loop (fun s=>(0<=s.1/\s.1<=f.Params.length)/\(s.2.1.params.length:Int)=s.1/\Tt {y1.2 with codes:=some (Q4l gm f.Name (y1.2.signs.length:Int))} {s.2.2.1 with t:=s.2.2.2}) (fun s=>f.Params.length-s.1.toNat) ⟨⟨qC 0,by dsimp only;omega⟩,rfl,Tt.refl hc1.tab⟩ (by dsimp only;omega) ?_;rintro⟨x10,x11,x12,x13⟩ ⟨i1,i2,i3⟩
  dsimp only at i1 i2 i3⊢
  by_cases h0:x10<f.Params.length
  . rw[c1 (dt h0)];obtain⟨v,hv,hvm⟩:=O2 ⟨i1.1,h0⟩;have ov:=hf.p v hvm;refine Rn.step hv ?_;refine Rn.bindG (Z4i i3.tab ov.pos ov.ty) (fun y6 a6=>?_) (fun e he=>Rn.ok (Og.err he));obtain⟨b,hb⟩:=Z1f y6.2.t y6.1;refine Rn.step hb ?_;cases b with
    |false=>rw[c1 (b:=!false) rfl];exact fail_l ov.pos (by decide) (fun e he=>Og.err he)
    |true=>
     rw[c0 (b:=!true) rfl];refine Rn.step (E1 (by simp;omega)) ?_;exact Rn.ok ⟨⟨by dsimp only;rw[w64 (by omega)];omega,by dsimp only;rw[w64 (by omega)];simp;omega,i3.tg a6⟩,by dsimp only;rw[w64 (by omega)];omega⟩
  . rw[c0 (df h0)];refine Rn.ok ?_;have he:=i3.eq;have hs:x12.signs=y1.2.signs:=by have:=congrArg Q0.signs he;exact this
    have hu:x12.u=y1.2.u:=by have:=congrArg Q0.u he;exact this
    have hgl:x12.globals=y1.2.globals:=by have:=congrArg Q0.globals he;exact this
    have hco:x12.codes=some (Q4l gm f.Name (y1.2.signs.length:Int)):=by have:=congrArg Q0.codes he;exact this
    have hgt:x12.gtypes=y1.2.gtypes:=by have:=congrArg Q0.gtypes he;exact this
    have hfu:x12.fun_=y1.2.fun_:=by have:=congrArg Q0.fun_ he;exact this
    have hlc:=hc1.lc;have huc:=hc1.uc
    dsimp only[Lp.thn]
    refine Og.step (E1 (by rw[hs];simp;omega)) ?_;refine Og.step (E1 (by rw[hu];simp;omega)) ?_;have put:=hc1.co.put hg hc1.cn hn;have hsg:y1.2.signs=c.signs:=by rw[a1.eq]
    refine Og.ok ⟨⟨i3.tab,by dsimp only;rw[hgl,hgt];exact hc1.gl,by dsimp only;rw[hco,hs];simpa using put.1,by dsimp only;rw[hfu];exact hc1.fn,by dsimp only;rw[hgl,hgt];exact hc1.gn,by dsimp only;rw[hco,hs];simpa using put.2,by dsimp only;rw[hu,hgt];exact hc1.ug,by dsimp only;rw[hu,hs];simp;omega,by dsimp only;rw[hgt];exact hc1.lg,by dsimp only;rw[hs];simp;omega⟩,by dsimp only;rw[hfu,a1.fun_eq],by dsimp only;rw[hu,a1.eq],x11,by dsimp only;rw[hs,hsg],by omega⟩
 cases(y1.1 !=0)with
 |false=>exact cont
 |true=>
  rw[c1 (b:=true) rfl];obtain⟨b,hb⟩:=Z1f y1.2.t y1.1;refine Og.step hb ?_;cases b with
  |false=>rw[c1 (b:=!false) rfl];exact Q0p hf.pos (by decide)
  |true=>exact cont
theorem main_g{c:Q0}(hc:Ck c){l:List I1}(hl:l.length=c.signs.length)(hp:∀f∈l,Pn f.Pos):Og Ep (N0 c l) (fun c'=>∃k,c'={c with u:={c.u with Main:=k}}):=by
 unfold N0;obtain⟨gm,hg,hv⟩:=hc.co;have hgm:J5 c.codes ([109,97,105,110]:List UInt8)=Q4x gm [109,97,105,110]:=by unfold J5;rw[hg];rfl
 rw[hgm];cases he:Q4x gm [109,97,105,110]with
 |none=>rw[c1 (b:=!(kJ none)) rfl];exact Q0p (by unfold Pn;decide) (by decide)
 |some v=>
  have hr:=hv _ _ he;rw[c0 (b:=!(kJ (some v))) rfl];obtain⟨s,hs,_⟩:=O2 hr;obtain⟨f,hf,hfm⟩:=O2 (l:=l) (n:=v) ⟨hr.1,by rw[hl];exact hr.2⟩;refine Og.step hs ?_;cases decide (0<(s.params.length:Int))with
  |true=>rw[c1 (b:=true) rfl];exact Og.step hf (Q0p (hp f hfm) (by decide))
  |false=>
   rw[c0 (b:=false) rfl];refine Og.step hs ?_;cases(s.ret !=1)with
   |true=>rw[c1 (b:=true) rfl];exact Og.step hf (Q0p (hp f hfm) (by decide))
   |false=>exact Og.ok ⟨v,rfl⟩
structure St(c c':Q0):Prop where
 eq:c'={c with t:=c'.t,fun_:=c'.fun_}
 ck:Ck c'
 gr:Gr c.t c'.t
 fn:∃f f',c.fun_= .some f/\c'.fun_= .some f'/\f'.scopes.length=f.scopes.length
theorem St.trans{a b c:Q0}(h:St a b)(g:St b c):St a c:=by
 obtain⟨f,f',h1,h2,h3⟩:=h.fn;obtain⟨k,k',g1,g2,g3⟩:=g.fn;rw[h2]at g1;cases g1;exact⟨by rw[g.eq,h.eq],g.ck,h.gr.trans g.gr,f,k',h1,g2,by omega⟩
theorem St.of{c c':Q0}(h:Ck c)(g:Tg c c'){f:G0}(hf:c.fun_= .some f):St c c':=⟨by
 have e:=g.eq
 have hfu:=g.fun_eq
 rw[hfu]
 exact e,h.tg g,g.gr,f,f,hf,by rw[g.fun_eq];exact hf,rfl⟩
theorem MpO.mono{m:Option (List (List UInt8×Int))}{n k:Nat}(h:MpO m n)(hk:n<=k):MpO m k:=by
 obtain⟨l,hl,hv⟩:=h;exact⟨l,hl,fun a b hb=>by have:=hv a b hb;omega⟩
theorem Y6c{c:Q0}(hc:Ck c){f:G0}(hf:c.fun_= .some f)(hs:1<=f.scopes.length){p:Pos}(hp:Pn p)(nm:List UInt8)(k:Int):Og Ep (D7 c p nm k) (fun x=>St c x.2):=by
 have hfn:=hc.fn;rw[hf]at hfn;have hfn:Fn f:=hfn;have hsl:=hfn.sl;have hle:=hfn.le;have hty:=hfn.ty;unfold D7;refine Og.step (x:=f) (by rw[hf];rfl) ?_;rw[w64 (by omega),show((f.scopes.length:Int)-1)=((f.scopes.length-1:Nat):Int) by omega];have hlt:f.scopes.length-1<f.scopes.length:=by omega
 refine Og.step (P6 hlt) ?_;obtain⟨l,hl,hv⟩:=hfn.sc _ (jT hlt);rw[hl];cases he:(J5 (some l) nm).isSome with
 |true=>rw[c1 (b:=true) rfl];exact Q0p hp (by decide)
 |false=>
 rw[c0 (b:=false) rfl]
 by_cases h2:f.slots.length=200
 . rw[c1 (by rw[h2];rfl)];exact Q0p hp (by decide)
 rw[c0 (beq_eq_false_iff_ne.2 (by omega)),qV];obtain⟨s,hsl2⟩:=Y3l (c:={c with fun_:=(O3.some ({f with scopes:=qP f.scopes (qF ((f.scopes.length-1:Nat):Int)) (some (Q4l l nm (qQ f.slots:Int)))}))}) hc.tab nm k;refine Og.step hsl2 ?_;refine Og.step (E1 (by simp;omega)) ?_;refine Og.step (E1 (by simp;omega)) ?_;refine Og.ok ⟨rfl,⟨hc.tab,hc.gl,hc.co,?_,hc.gn,hc.cn,hc.ug,hc.uc,hc.lg,hc.lc⟩,Gr.refl _,f,_,hf,rfl,by simp⟩
 change Fn _
 refine⟨by simp;omega,by simp;omega,?_,by simp;omega⟩;intro m hm
 dsimp only at hm⊢
 rw[qW]
 rcases Y2w hm with hm|rfl
 . exact(hfn.sc m hm).mono (by simp)
 . refine⟨_,rfl,fun a b hb=>?_⟩;rw[mGet_set]at hb
   split at hb
   . cases hb;simp;omega
   . have:=hv a b hb;simp;omega
theorem Y7w{c:Q0}(hc:Ck c){x:Y2}(hx:OkX x):Og Ep (C1 c x) (fun y=>Tg c y.2/\∃t,y.1=⟨1,[t],[],false,[],[],[],0⟩/\Dp (6*wE x) t):=by
 unfold C1
 dsimp only[jn]
 have px:=Q2u x;refine Og.bind (expr_any hc hx) (fun y1 a1=>?_) (fun e he=>Og.err he);have fin:∀(v:Z8)(c':Q0),Tg c c'->Dp (6*wE x) v.term->Og Ep (some (qX (ε:=Z1×Q0) ((⟨1,([v.term]:List Y1),[],false,[],[],[],0⟩:K2),({c' with t:=c'.t}:Q0)))) (fun y=>Tg c y.2/\∃t,y.1=⟨1,[t],[],false,[],[],[],0⟩/\Dp (6*wE x) t):=fun v c' h d=>Og.ok ⟨h,_,rfl,d⟩;have d1:=a1.2.mono (show 6*wE x-2<=6*wE x by omega);cases y1.1.lies with
 |false=>exact fin _ _ a1.1 d1
 |true=>
  rw[c1 (b:=true) rfl];obtain⟨b,hb⟩:=Z1f y1.2.t y1.1.n;refine Og.step hb ?_;cases b with
  |false=>exact fin _ _ a1.1 d1
  |true=>
   rw[c1 (b:=true) rfl];refine Og.bind (X0a a1.1.tab hx.pn a1.2) (fun y3 a3=>?_) (fun e he=>Og.err he);rw[a3.1.back];exact fin _ _ (a1.1.trans a3.1) (a3.2.mono (by omega))
theorem one_g{c:Q0}(hc:Ck c)(k:Int){x:Y2}(hx:OkX x):Og Ep (I9 c k x) (fun y=>Tg c y.2/\∃t,y.1=⟨k,[t],[],false,[],[],[],0⟩/\Dp (6*wE x) t):=by
 unfold I9;exact Og.bind (Y6o hc hx) (fun y1 a1=>Og.ok ⟨a1.1,_,rfl,a1.2⟩) (fun e he=>Og.err he)
structure Al(a:K2):Prop where
 A:a.A.length<=1000000000
 P:a.Post.length<=1000000000
 b:a.Body.length<=1000000000
 e:a.Else.length<=1000000000
 c:a.Cases.length<=1000000000
 cb:∀c∈a.Cases,c.Body.length<=1000000000
inductive Ad:Nat->K2->Prop
 |mk {n:Nat} {a:K2} (A:∀t∈a.A,Dp 70000 t) (P:∀t∈a.Post,Dp 70000 t) (b:∀x∈a.Body,Ad n x) (e:∀x∈a.Else,Ad n x) (c:∀c∈a.Cases,∀x∈c.Body,Ad n x) (l:Al a):Ad (n+1) a
theorem Ad.mono{n:Nat}{a:K2}(h:Ad n a):∀{m:Nat},n<=m->Ad m a:=by
 induction h with
 |@mk n a A P b e c l ib ie ic=>
  intro m hm;obtain⟨k,rfl⟩:∃k,m=k+1:=⟨m-1,by omega⟩;exact .mk A P (fun x hx=>ib x hx (by omega)) (fun x hx=>ie x hx (by omega)) (fun q hq x hx=>ic q hq x hx (by omega)) l
theorem C3{α:Type}{p:α->Prop}:∀x∈([]:List α),p x:=fun x h=>by cases h
theorem Ad.flat{n:Nat}(hn:1<=n){k:Int}{A:List Y1}{f:Bool}{v:Int}(hA:∀t∈A,Dp 70000 t)(hl:A.length<=1000000000:=by simp):Ad n ⟨k,A,[],f,[],[],[],v⟩:=Ad.mono (n:=1) (.mk (n:=0) hA C3 C3 C3 (fun c h=>by cases h) ⟨hl,by simp,by simp,by simp,by simp,fun c h=>by cases h⟩) hn
theorem answer_g{c:Q0}(hc:Ck c){f:G0}(hf:c.fun_= .some f){s:E0}(hp:Pn s.Pos)(hA:∀x∈s.A,OkX x):Og Ep (M1 c s) (fun y=>Tg c y.2/\Ad 1 y.1):=by
 unfold M1
 by_cases h0:s.A=[]
 . rw[c1 (by rw[h0];rfl)];refine Og.step (x:=f) (by rw[hf];rfl) ?_;cases(f.ret !=0)with
   |true=>rw[c1 (b:=true) rfl];exact Q0p hp (by decide)
   |false=>exact Og.ok ⟨Tg.refl hc.tab,Ad.flat (qD _) C3⟩
 . have hl:1<=s.A.length:=List.length_pos_iff.2 h0;rw[c0 (beq_eq_false_iff_ne.2 (by omega))];have hx:=hA s.A[0] (jT hl);have hw:=hx.w;have px:=Q2u s.A[0];refine Og.step (show idx s.A 0=some s.A[0]from P6 (k:=0) hl) ?_;refine Og.bind (Z8q hc hx) (fun y2 a2=>?_) (fun e he=>Og.err he);have hf2:y2.2.fun_= .some f:=by rw[a2.1.fun_eq];exact hf
   refine Og.step (x:=f) (by rw[hf2];rfl) ?_;cases(f.ret==0)with
   |true=>rw[c1 (b:=true) rfl];exact Q0p hx.pn (by decide)
   |false=>
    rw[c0 (b:=false) rfl];refine Og.bind (Y8y (c:={y2.2 with fun_:=(O3.some f)}) a2.1.tab hx.pn (n:=6*wE s.A[0]) (by omega) a2.2 f.ret) (fun y4 a4=>?_) (fun e he=>Og.err he);exact Og.ok ⟨a2.1,Ad.flat (qD _) (fun t ht=>by rw[kQ.1 ht];exact a4.mono (by omega))⟩
theorem Y9y{c:Q0}(h:Tab c.t){a b:Y1}{k:Int}{l:List K2}(ha:Dp 69999 a)(hb:Dp 69999 b)(hl:∀x∈l,Ad 1 x)(hn:l.length<=1000000):∃r,O5 a b c k l=some r/\(∀x∈r,Ad 1 x)/\r.length=l.length+1:=by
 unfold O5
 dsimp only[jn]
 obtain⟨p,hp⟩:=Q0d h k;rw[Q2v,qV,hp,qV,E1 (by simp;omega),qV,P6 (show l.length<(l++[(⟨0,[],[],false,[],[],[],0⟩:K2)]).length by simp),qV];refine⟨_,rfl,fun x hx=>?_,by simp⟩
 rcases Y2w hx with hx|rfl
 . rcases jQ.1 hx with hx|hx
   . exact hl x hx
   . rw[kQ.1 hx];exact Ad.flat (qD _) C3
 . exact Ad.flat (qD _) (fun t ht=>by rw[kQ.1 ht];exact Dp.k2 rfl ha hb (by omega))
theorem St.step{a b c:Q0}(h:St a b)(g:Tg b c):St a c:=by
 obtain⟨f,f',h1,h2,h3⟩:=h.fn;exact h.trans (St.of h.ck g h2)
theorem len_any{t:Z5}(h:Tab t){n:Int}(h4:(tyT t n).1.Kind=4):(tyT t n).1.Len<=32768:=by
 unfold tyT at h4⊢;cases hx:idx t.list n with
 |none=>rw[hx]at h4;exact absurd h4 (by decide)
 |some x=>
  rw[hx]at h4
  have hm:x∈t.list:=by
   obtain⟨a,b,d⟩:=S8 hx;exact jW d
  have hk:=h.k x hm;obtain⟨l1,e,he,he1,he2⟩:=hk.arr h4;have hs:=hk.sz
  dsimp only
  have h5:x.Type_.Len*1<=x.Type_.Len*e.size:=Int.mul_le_mul_of_nonneg_left he1 (by omega);omega
theorem Y9x{c:Q0}(hc:Ck c){f:G0}(hf:c.fun_= .some f)(hs:1<=f.scopes.length){v:G9}(hv:OkV v)(hd:v.Dims.length<=5000)(hx:∀x∈v.Init,wE x<=10000)(hl:v.Init.length<=5000):Og Ep (C9 c v) (fun y=>St c y.2/\(∀x∈y.1,Ad 1 x)/\y.1.length<=40000):=by
 unfold C9
 dsimp only[jn]
 refine Og.bind (Y6t hc.tab hv hd) (fun y1 a1=>?_) (fun e he=>Og.err he);rw[a1.1.back];have hf1:y1.2.fun_= .some f:=by rw[a1.1.fun_eq];exact hf
 refine Og.bind (Y6c (hc.tg a1.1) hf1 hs hv.pos v.Name y1.1) (fun y2 a2=>?_) (fun e he=>Og.err he);have st:=(St.of hc a1.1 hf).trans a2;have tb:=st.ck.tab;refine Og.step (Y2v tb _) ?_;refine Og.step (Z2n tb _) ?_;refine Og.bind (X1o tb hv y1.1) (fun l hi=>?_) (fun e he=>Og.err he)
 have hll:l.length<=5000:=by
  rcases hi.1 with h|h
  . rw[h];simp
  . rw[h];exact hl
 have hox:∀x∈l,OkX x:=by
  intro x hm
  rcases hi.1 with h|h
  . rw[h]at hm;cases hm
  . rw[h]at hm;exact⟨hv.init x hm,hx x hm⟩
 have a9:∀x∈([(⟨9,[],[],false,[],[],[],y2.1⟩:K2)]:List K2),Ad 1 x:=fun x hx=>by rw[kQ.1 hx];exact Ad.flat (qD _) C3
 have dv:Dp 69998 (⟨2,0,0,y2.1,false,0,false,true,[]⟩:Y1):=Dp.k0 rfl (by decide)
 by_cases h0:l=[]
 . rw[c1 (by rw[h0];rfl)];exact Og.ok ⟨st,a9,by simp⟩
 have hl1:1<=l.length:=List.length_pos_iff.2 h0;rw[c0 (beq_eq_false_iff_ne.2 (by omega))]
 by_cases h4:(tyT y2.2.t y1.1).1.Kind=4
 . rw[c0 (by rw[h4];rfl)];have hlen:=len_any tb h4;refine Og.loop (fun s=>(0<=s.1/\s.1<=32768)/\(∀x∈s.2.1,Ad 1 x)/\(s.2.1.length:Int)=s.1+1/\St c {s.2.2.1 with t:=s.2.2.2}) (fun s=>40000-s.1.toNat) ⟨(by decide:(0:Int)<=0/\(0:Int)<=32768),a9,rfl,st⟩ (by dsimp only;omega) ?_;rintro⟨x11,x12,x13,x14⟩ ⟨i1,i2,i3,i4⟩
   dsimp only at i1 i2 i3 i4⊢
   by_cases hlt:x11<(tyT y2.2.t y1.1).1.Len
   . rw[c1 (dt hlt)];obtain⟨p,hp⟩:=Q0d i4.ck.tab (paT y2.2.t y1.1);refine Rn.step hp ?_;have di:∀s q,Dp 69999 (⟨14,1,0,0,false,s,false,q,[(⟨2,0,0,y2.1,false,0,false,true,[]⟩:Y1),(⟨1,0,qJ .u32 x11,0,false,0,false,false,[]⟩:Y1)]⟩:Y1):=fun s q=>Dp.k2 (n:=1) rfl (Dp.k0 rfl (qD _)) (Dp.k0 rfl (qD _)) (by decide)
     by_cases hll2:x11<l.length
     . rw[c1 (dt hll2)];obtain⟨u,hu,hum⟩:=O2 ⟨i1.1,hll2⟩;have ou:=hox u hum;have how:=ou.w;have pu:=Q2u u;refine Rn.step hu ?_;refine Rn.step hu ?_;refine Rn.bindG (Z8q i4.ck ou) (fun y10 a10=>?_) (fun e he=>Rn.ok (Og.err he));refine Rn.bindG (Z4h a10.1.tab ou.pn (n:=6*wE u) (by omega) a10.2 _) (fun y11 a11=>?_) (fun e he=>Rn.ok (Og.err he));have st2:=i4.step a10.1;obtain⟨s,q,hq⟩:=Z8v (c:=y10.2) st2.ck.tab (⟨2,0,0,y2.1,false,0,false,true,[]⟩:Y1) (⟨1,0,qJ .u32 x11,0,false,0,false,false,[]⟩:Y1) (paT y2.2.t y1.1) 1;refine Rn.step hq ?_;obtain⟨r,hr,hr2,hr3⟩:=Y9y (c:=y10.2) (k:=paT y2.2.t y1.1) st2.ck.tab (di s q) (a11.mono (show 6*wE u<=69999 by omega)) i2 (by omega);refine Rn.step hr ?_;exact Rn.ok ⟨⟨by dsimp only;rw[w64 (by omega)];omega,hr2,by dsimp only;rw[w64 (by omega),hr3];omega,st2⟩,by dsimp only;rw[w64 (by omega)];omega⟩
     . rw[c0 (df hll2)];obtain⟨s,q,hq⟩:=Z8v (c:={x13 with t:=x14}) i4.ck.tab (⟨2,0,0,y2.1,false,0,false,true,[]⟩:Y1) (⟨1,0,qJ .u32 x11,0,false,0,false,false,[]⟩:Y1) (paT y2.2.t y1.1) 1;refine Rn.step hq ?_;obtain⟨r,hr,hr2,hr3⟩:=Y9y (c:={x13 with t:=x14}) (k:=paT y2.2.t y1.1) (b:=(⟨1,0,0,0,false,0,false,p,[]⟩:Y1)) i4.ck.tab (di s q) (Dp.k0 rfl (by decide)) i2 (by omega);refine Rn.step hr ?_;exact Rn.ok ⟨⟨by dsimp only;rw[w64 (by omega)];omega,hr2,by dsimp only;rw[w64 (by omega),hr3];omega,i4⟩,by dsimp only;rw[w64 (by omega)];omega⟩
   . rw[c0 (df hlt)];exact Rn.ok (Og.ok ⟨i4,i2,by dsimp only;omega⟩)
 . rw[c1 (by simpa using h4)];have hxx:=hox l[0] (jT hl1);have hw:=hxx.w;have px:=Q2u l[0];have hid:idx l 0=some l[0]:=P6 (k:=0) hl1;refine Og.step hid ?_;refine Og.step hid ?_;refine Og.bind (Z8q st.ck hxx) (fun y6 a6=>?_) (fun e he=>Og.err he);refine Og.bind (Z4h a6.1.tab hxx.pn (n:=6*wE l[0]) (by omega) a6.2 y1.1) (fun y7 a7=>?_) (fun e he=>Og.err he);obtain⟨r,hr,hr2,hr3⟩:=Y9y (a:=(⟨2,0,0,y2.1,false,0,false,true,[]⟩:Y1)) (b:=y7) (k:=paT y2.2.t y1.1) a6.1.tab (dv.mono (by decide)) (a7.mono (by omega)) a9 (by simp);exact Og.step hr (Og.ok ⟨st.step a6.1,hr2,by rw[hr3];simp⟩)
structure OkY(x:E0):Prop where
 s:OkS x
 w:wS x<=5000
def QA(c:Q0)(n:Nat)(y:List K2×Q0):Prop:=St c y.2/\(∀x∈y.1,Ad n x)/\y.1.length<=40000*n
def Sc(c:Q0)(k:Nat):Prop:=∃f,c.fun_= .some f/\1<=f.scopes.length/\f.scopes.length+k<=90000
theorem St.refl{c:Q0}(h:Ck c){f:G0}(hf:c.fun_= .some f):St c c:=St.of h (Tg.refl h.tab) hf
theorem Sc.st{c c':Q0}{k:Nat}(h:Sc c k)(g:St c c'):Sc c' k:=by
 obtain⟨f,hf,h1,h2⟩:=h;obtain⟨a,b,ha,hb,hl⟩:=g.fn;rw[hf]at ha;cases ha;exact⟨b,hb,by omega,by omega⟩
theorem block_st{c c':Q0}{f f':G0}(hf:c.fun_= .some f)(g:St {c with fun_:=(O3.some ({f with scopes:=f.scopes++[(some [])]}))} c')(hf':c'.fun_= .some f'){s:List (Option (List (List UInt8×Int)))}(hs:s=f'.scopes.take (f'.scopes.length-1))(hl:f'.scopes.length=f.scopes.length+1):St c {c' with fun_:=(O3.some ({f' with scopes:=s}))}:=by
 have hk:=g.ck;have hfn:=hk.fn;rw[hf']at hfn;have hfn:Fn f':=hfn;refine⟨?_,⟨hk.tab,hk.gl,hk.co,?_,hk.gn,hk.cn,hk.ug,hk.uc,hk.lg,hk.lc⟩,g.gr,f,_,hf,rfl,by dsimp only;rw[hs,qE];omega⟩
 . have e:=g.eq
   dsimp only
   rw[e]
 . change Fn _
   refine⟨hfn.ty,hfn.le,fun m hm=>?_,by dsimp only;rw[hs,qE];have:=hfn.sl;omega⟩
   dsimp only at hm
   rw[hs]at hm;exact hfn.sc m (List.mem_of_mem_take hm)
theorem Ck.scope{c:Q0}(h:Ck c){f:G0}(hf:c.fun_= .some f)(hl:f.scopes.length+1<=90000):Ck {c with fun_:=(O3.some ({f with scopes:=f.scopes++[(some [])]}))}:=by
 have hfn:=h.fn;rw[hf]at hfn;have hfn:Fn f:=hfn;refine⟨h.tab,h.gl,h.co,?_,h.gn,h.cn,h.ug,h.uc,h.lg,h.lc⟩
 change Fn _
 refine⟨hfn.ty,hfn.le,fun m hm=>?_,by simp;omega⟩
 rcases jQ.1 hm with hm|hm
 . exact hfn.sc m hm
 . rw[kQ.1 hm];exact⟨[],rfl,fun a b hb=>by cases hb⟩
theorem Ck.loops{c:Q0}(h:Ck c){f:G0}(hf:c.fun_= .some f)(a b:Int):Ck {c with fun_:=(O3.some ({f with loops:=a,breaks:=b}))}:=by
 have hfn:=h.fn;rw[hf]at hfn;have hfn:Fn f:=hfn;exact⟨h.tab,h.gl,h.co,(⟨hfn.ty,hfn.le,hfn.sc,hfn.sl⟩:Fn {f with loops:=a,breaks:=b}),h.gn,h.cn,h.ug,h.uc,h.lg,h.lc⟩
theorem Q6a{α:Type}(w:α->Nat){l:List α}{x:α}(h:x∈l):w x<=sm w l:=by
 obtain⟨s,t,e⟩:=List.append_of_mem h;rw[e,Q2a,Q7b];omega
theorem sm_take{α:Type}(w:α->Nat){l:List α}{k:Nat}(h:k<l.length):sm w (l.take (k+1))=sm w (l.take k)+w l[k]:=by
 rw[List.take_succ_eq_append_getElem h,Q2a,Q7b]
 simp[sm]
theorem Y3j{α:Type}(w:α->Nat)(l:List α)(k:Nat):sm w (l.take k)<=sm w l:=by
 have:=Q2a w (l.take k) (l.drop k);rw[List.take_append_drop]at this;omega
theorem Y5o{α:Type}{b:List α}{n:Nat}(h:n<=b.length):sub b 0 (n:Int)=some (b.take n):=by
 unfold sub;rw[if_pos (by omega)]
 simp
theorem OkY.A{x:E0}(h:OkY x):∀y∈x.A,OkX y:=fun y hy=>⟨match h.s with| .mk a _ _ _ _ _ _ _ _ _=>a y hy,by have:=Q6a wE hy;have:=Z9j x;have:=h.w;omega⟩
theorem OkY.B{x:E0}(h:OkY x):∀y∈x.B,OkX y:=fun y hy=>⟨match h.s with| .mk _ a _ _ _ _ _ _ _ _=>a y hy,by have:=Q6a wE hy;have:=Z9j x;have:=h.w;omega⟩
theorem OkY.C{x:E0}(h:OkY x):∀y∈x.C,OkX y:=fun y hy=>⟨match h.s with| .mk _ _ a _ _ _ _ _ _ _=>a y hy,by have:=Q6a wE hy;have:=Z9j x;have:=h.w;omega⟩
theorem OkY.V{x:E0}(h:OkY x):∀y∈x.Var,OkV y/\y.Dims.length<=5000/\(∀z∈y.Init,wE z<=10000)/\y.Init.length<=5000:=fun y hy=>by
 have h1:=Q6a wV hy
 have h2:=Z9j x
 have h3:=h.w
 have h5:wV y=1+y.Type_.Stars.toNat+y.Dims.length+sm wE y.Init:=rfl
 have h4:=S7 Q2u y.Init
 exact⟨match h.s with| .mk _ _ _ a _ _ _ _ _ _=>a y hy,by omega,fun z hz=>by have:=Q6a wE hz;omega,by omega⟩
theorem OkY.body{x:E0}(h:OkY x):∀y∈x.Body,OkS y:=match h.s with| .mk _ _ _ _ a _ _ _ _ _=>a
theorem OkY.els{x:E0}(h:OkY x):∀y∈x.Else,OkS y:=match h.s with| .mk _ _ _ _ _ a _ _ _ _=>a
theorem OkY.cases{x:E0}(h:OkY x):∀c∈x.Cases,(∀y∈c.Body,OkS y)/\Pn c.Pos:=fun c hc=>⟨match h.s with| .mk _ _ _ _ _ _ a _ _ _=>a c hc,match h.s with| .mk _ _ _ _ _ _ _ _ _ a=>a c hc⟩
theorem OkY.pn{x:E0}(h:OkY x):Pn x.Pos:=match h.s with| .mk _ _ _ _ _ _ _ a _ _=>a
theorem OkY.sa{x:E0}(h:OkY x):Sa x.Kind x.A.length x.Var.length:=match h.s with| .mk _ _ _ _ _ _ _ _ a _=>a
theorem Sc.mono{c:Q0}{j k:Nat}(h:Sc c j)(hk:k<=j):Sc c k:=by
 obtain⟨f,a,b,d⟩:=h;exact⟨f,a,b,by omega⟩
theorem St.loops{c c':Q0}{f f':G0}(hf:c.fun_= .some f){a b:Int}(g:St {c with fun_:=(O3.some ({f with loops:=a,breaks:=b}))} c')(hf':c'.fun_= .some f')(a' b':Int):St c {c' with fun_:=(O3.some ({f' with loops:=a',breaks:=b'}))}:=by
 obtain⟨k,k',h1,h2,h3⟩:=g.fn;cases h1;rw[hf']at h2;cases h2;refine⟨?_,g.ck.loops hf' a' b',g.gr,f,_,hf,rfl,h3⟩;have e:=g.eq
 dsimp only
 rw[e]
structure S6(n:Nat):Prop where
 block:∀c l,Ck c->(∀y∈l,OkS y)->sm wS l<=5000->Sc c (sm wS l+1)->5*sm wS l+3<=n->Og Ep ((Q0s n).V4 c l) (QA c (2*sm wS l))
 looped:∀c l,Ck c->(∀y∈l,OkS y)->sm wS l<=5000->Sc c (sm wS l+1)->5*sm wS l+4<=n->Og Ep ((Q0s n).K8 c l) (QA c (2*sm wS l))
 around:∀c x,Ck c->OkY x->Sc c (wS x)->5*wS x<=n->Og Ep ((Q0s n).D5 c x) (QA c (2*wS x-1))
 choose:∀c x,Ck c->OkY x->Sc c (wS x)->1<=x.A.length->5*wS x<=n->Og Ep ((Q0s n).D4 c x) (fun y=>St c y.2/\Ad (2*wS x-1) y.1)
 stmt:∀c x,Ck c->OkY x->Sc c (wS x)->5*wS x+1<=n->Og Ep ((Q0s n).B3 c x) (QA c (2*wS x))
 acts:∀c l,Ck c->(∀y∈l,OkS y)->sm wS l<=5000->Sc c (sm wS l)->5*sm wS l+2<=n->Og Ep ((Q0s n).K3 c l) (QA c (2*sm wS l))
theorem block_s6{n:Nat}(h:S6 n):∀c l,Ck c->(∀y∈l,OkS y)->sm wS l<=5000->Sc c (sm wS l+1)->5*sm wS l+3<=n+1->Og Ep ((Q0s (n+1)).V4 c l) (QA c (2*sm wS l)):=by
 intro c l hc hl hw hs hn;show Og Ep (H8 (Q0s n) c l) _;unfold H8;obtain⟨f,hf,h1,h2⟩:=hs;refine Og.step (x:=f) (by rw[hf];rfl) ?_;refine Og.step (E1 (by omega)) ?_;refine Og.bind (h.acts _ l (hc.scope hf (by omega)) hl hw ⟨_,rfl,by simp,by simp;omega⟩ (by omega)) (fun y a=>?_) (fun e he=>Og.err he);obtain⟨a1,a2,a3⟩:=a;obtain⟨g,g',e1,e2,e3⟩:=a1.fn;cases e1;refine Og.step (x:=g') (by rw[e2];rfl) ?_;rw[qW,qG]at e3;refine Og.step (x:=g'.scopes.take (g'.scopes.length-1)) (by rw[w64 (by omega),show((g'.scopes.length:Int)-1)=((g'.scopes.length-1:Nat):Int) by omega];exact Y5o (by omega)) ?_;exact Og.ok ⟨block_st hf a1 e2 rfl e3,a2,a3⟩
theorem X2o{n:Nat}(h:S6 n):∀c l,Ck c->(∀y∈l,OkS y)->sm wS l<=5000->Sc c (sm wS l+1)->5*sm wS l+4<=n+1->Og Ep ((Q0s (n+1)).K8 c l) (QA c (2*sm wS l)):=by
 intro c l hc hl hw hs hn;show Og Ep (A2 (Q0s n) c l) _;unfold A2;obtain⟨f,hf,h1,h2⟩:=hs;refine Og.step (x:=f) (by rw[hf];rfl) ?_;refine Og.bind (h.block _ l (hc.loops hf _ _) hl hw ⟨_,rfl,h1,h2⟩ (by omega)) (fun y a=>?_) (fun e he=>Og.err he);obtain⟨a1,a2,a3⟩:=a;obtain⟨g,g',e1,e2,e3⟩:=a1.fn;refine Og.step (x:=g') (by rw[e2];rfl) ?_;exact Og.ok ⟨St.loops hf a1 e2 _ _,a2,a3⟩
theorem acts_s6{n:Nat}(h:S6 n):∀c l,Ck c->(∀y∈l,OkS y)->sm wS l<=5000->Sc c (sm wS l)->5*sm wS l+2<=n+1->Og Ep ((Q0s (n+1)).K3 c l) (QA c (2*sm wS l)):=by
 intro c l hc hl hw hs hn;show Og Ep (M2 (Q0s n) c l) _;unfold M2;have hll:=S7 Z7e l;obtain⟨f,hf,_⟩:=id hs;refine Og.loop (fun s=>0<=s.2.1/\s.2.1<=l.length/\(∀x∈s.1,Ad (2*sm wS l) x)/\s.1.length<=80000*sm wS (l.take s.2.1.toNat)/\St c {s.2.2.1 with t:=s.2.2.2}) (fun s=>l.length-s.2.1.toNat) ⟨qC 0,by dsimp only;omega,C3,by simp,St.refl hc hf⟩ (by dsimp only;omega) ?_;rintro⟨x1,x11,x12,x13⟩ ⟨i1,i2,i3,i4,i5⟩
 dsimp only at i1 i2 i3 i4 i5⊢
 obtain⟨k,rfl⟩:=jR i1;rw[Int.toNat_natCast]at i4
 by_cases hlt:k<l.length
 . rw[c1 (dlt hlt)];have hm:=jT hlt;have h1:=Q6a wS hm;have h2:=sm_take wS hlt;have h3:=Y3j wS l (k+1);refine Rn.step (P6 hlt) ?_;refine Rn.bindG (h.stmt _ l[k] i5.ck ⟨hl _ hm,by omega⟩ (Sc.st (Sc.mono hs h1) i5) (by omega)) (fun y a=>?_) (fun e he=>Rn.ok (Og.err he));obtain⟨a1,a2,a3⟩:=a;refine Rn.step (E1 (by omega)) ?_;refine Rn.ok ⟨⟨by dsimp only;rw[w64 (by omega)];omega,by dsimp only;rw[w64 (by omega)];omega,fun x hx=>?_,?_,i5.trans a1⟩,by dsimp only;rw[w64 (by omega)];omega⟩
   . rcases jQ.1 hx with hx|hx
     . exact i3 x hx
     . exact(a2 x hx).mono (by omega)
   . dsimp only
     rw[w64 (by omega),show((k:Int)+1)=((k+1:Nat):Int) by omega,Int.toNat_natCast,h2,qW];omega
 . rw[c0 (df (by omega))];have h3:=Y3j wS l k;exact Rn.ok (Og.ok ⟨i5,i3,by dsimp only;omega⟩)
structure Fa(a:K2):Prop where
 A:∀t∈a.A,Dp 70000 t
 P:∀t∈a.Post,Dp 70000 t
 b:a.Body=[]
 e:a.Else=[]
 c:a.Cases=[]
 l:a.Post.length<=1
theorem X3g{n:Nat}(h:S6 n):∀c x,Ck c->OkY x->Sc c (wS x)->5*wS x<=n+1->Og Ep ((Q0s (n+1)).D5 c x) (QA c (2*wS x-1)):=by
 intro c x hc hx hs hn;show Og Ep (A6 (Q0s n) c x) _;unfold A6;have hw:=Z9j x;have hww:=hx.w;have lA:=S7 Q2u x.A;have lB:=S7 Q2u x.B;have lC:=S7 Q2u x.C;obtain⟨f,hf,_⟩:=id hs;refine Og.loop (fun s=>0<=s.2.1/\s.2.1<=x.A.length/\(∀y∈s.1,Ad 1 y)/\s.1.length<=s.2.1/\Tg c {s.2.2.1 with t:=s.2.2.2}) (fun s=>x.A.length-s.2.1.toNat) ⟨qC 0,by dsimp only;omega,C3,by simp,Tg.refl hc.tab⟩ (by dsimp only;omega) ?_;rintro⟨x1,x11,x12,x13⟩ ⟨i1,i2,i3,i4,i5⟩
 dsimp only at i1 i2 i3 i4 i5⊢
 by_cases hlt:x11<x.A.length
 . rw[c1 (dt hlt)];obtain⟨u,hu,hum⟩:=O2 ⟨i1,hlt⟩;have ou:=hx.A u hum;have uw:=ou.w;refine Rn.step hu ?_;refine Rn.bindG (Y7w (hc.tg i5) ou) (fun y a=>?_) (fun e he=>Rn.ok (Og.err he));obtain⟨a1,t,a2,a3⟩:=a;refine Rn.step (E1 (by simp;omega)) ?_;refine Rn.ok ⟨⟨by dsimp only;rw[w64 (by omega)];omega,by dsimp only;rw[w64 (by omega)];omega,fun z hz=>?_,by dsimp only;rw[w64 (by omega),qW];simp;omega,i5.trans a1⟩,by dsimp only;rw[w64 (by omega)];omega⟩
   rcases jQ.1 hz with hz|hz
   . exact i3 z hz
   . rw[kQ.1 hz,a2];exact Ad.flat (qD _) (fun t ht=>by rw[kQ.1 ht];exact a3.mono (by omega))
 rw[c0 (df hlt)];refine Rn.ok ?_;show Og Ep ((X8 _ NN _).bind _) _
 clear hlt
 refine Og.loop (fun s=>0<=s.1/\s.1<=x.B.length/\Fa s.2.1/\s.2.1.A.length<=s.1/\Tg c {s.2.2.1 with t:=s.2.2.2}) (fun s=>x.B.length-s.1.toNat) ⟨qC 0,by dsimp only;omega,⟨C3,C3,rfl,rfl,rfl,by simp⟩,by simp,i5⟩ (by dsimp only;omega) ?_
 clear i5
 rintro⟨x24,x25,x26,x27⟩ ⟨j1,j2,j3,j4,j5⟩
 dsimp only at j1 j2 j3 j4 j5⊢
 by_cases hlt:x24<x.B.length
 . rw[c1 (dt hlt)];obtain⟨u,hu,hum⟩:=O2 ⟨j1,hlt⟩;have ou:=hx.B u hum;have uw:=ou.w;refine Rn.step hu ?_;refine Rn.bindG (Y6o (hc.tg j5) ou) (fun y a=>?_) (fun e he=>Rn.ok (Og.err he));refine Rn.step (E1 (by simp;omega)) ?_;refine Rn.ok ⟨⟨by dsimp only;rw[w64 (by omega)];omega,by dsimp only;rw[w64 (by omega)];omega,⟨fun z hz=>?_,j3.P,j3.b,j3.e,j3.c,j3.l⟩,by dsimp only;rw[w64 (by omega),qW];simp;omega,j5.trans a.1⟩,by dsimp only;rw[w64 (by omega)];omega⟩
   rcases jQ.1 hz with hz|hz
   . exact j3.A z hz
   . rw[kQ.1 hz];exact a.2.mono (by omega)
 rw[c0 (df hlt)];refine Rn.ok ?_;show Og Ep ((X8 _ NN _).bind _) _
 clear hlt
 refine Og.loop (fun s=>0<=s.1/\s.1<=x.C.length/\(Fa s.2.1/\s.2.1.A.length<=5000)/\Tg c {s.2.2.1 with t:=s.2.2.2}) (fun s=>x.C.length-s.1.toNat) ⟨qC 0,by dsimp only;omega,⟨j3,by dsimp only;omega⟩,j5⟩ (by dsimp only;omega) ?_
 clear j5 j3 j4
 rintro⟨x38,x39,x40,x41⟩ ⟨k1,k2,⟨k3,k4⟩,k5⟩
 dsimp only at k1 k2 k3 k4 k5⊢
 by_cases hlt:x38<x.C.length
 . rw[c1 (dt hlt)];obtain⟨u,hu,hum⟩:=O2 ⟨k1,hlt⟩;have ou:=hx.C u hum;have uw:=ou.w;refine Rn.step hu ?_;refine Rn.bindG (Y7w (hc.tg k5) ou) (fun y a=>?_) (fun e he=>Rn.ok (Og.err he));obtain⟨a1,t,a2,a3⟩:=a;refine Rn.ok ⟨⟨by dsimp only;rw[w64 (by omega)];omega,by dsimp only;rw[w64 (by omega)];omega,⟨⟨k3.A,fun z hz=>?_,k3.b,k3.e,k3.c,by dsimp only;rw[a2];simp⟩,k4⟩,k5.trans a1⟩,by dsimp only;rw[w64 (by omega)];omega⟩
   dsimp only at hz
   rw[a2,kQ]at hz;rw[hz];exact a3.mono (by omega)
 rw[c0 (df hlt)];refine Rn.ok ?_;show Og Ep (((Q0s n).K8 _ _).bind _) _;have st:=St.of hc k5 hf;refine Og.bind (h.looped _ x.Body st.ck hx.body (by omega) (Sc.mono (Sc.st hs st) (by omega)) (by omega)) (fun y a=>?_) (fun e he=>Og.err he);obtain⟨a1,a2,a3⟩:=a;refine Og.step (E1 (by simp;omega)) ?_;refine Og.ok ⟨st.trans a1,fun z hz=>?_,by simp;omega⟩
 rcases jQ.1 hz with hz|hz
 . exact(i3 z hz).mono (by omega)
 . rw[kQ.1 hz];exact Ad.mono (n:=2*sm wS x.Body+1) (.mk (n:=2*sm wS x.Body) (a:={x39 with Body:=y.1}) k3.A k3.P a2 (by dsimp only;rw[k3.e];exact C3) (by dsimp only;rw[k3.c];exact C3) ⟨by dsimp only;omega,by have:=k3.l;dsimp only;omega,by dsimp only;omega,by dsimp only;rw[k3.e];simp,by dsimp only;rw[k3.c];simp,by dsimp only;rw[k3.c];exact C3⟩) (by omega)
theorem X2x{n:Nat}(h:S6 n):∀c x,Ck c->OkY x->Sc c (wS x)->1<=x.A.length->5*wS x<=n+1->Og Ep ((Q0s (n+1)).D4 c x) (fun y=>St c y.2/\Ad (2*wS x-1) y.1):=by
 intro c x hc hx hs hA hn;show Og Ep (A3 (Q0s n) c x) _;unfold A3
 dsimp only[jn]
 have hw:=Z9j x;have hww:=hx.w;have lC:=S7 wC_pos x.Cases;obtain⟨f,hf,hs1,hs2⟩:=id hs;have ou:=hx.A x.A[0] (jT hA);have uw:=ou.w;refine Og.step (show idx x.A 0=some x.A[0]from P6 (k:=0) hA) ?_;refine Og.bind (X0j hc ou) (fun y a=>?_) (fun e he=>Og.err he);have hfy:y.2.fun_= .some f:=by rw[a.1.fun_eq];exact hf
 refine Og.step (x:=f) (by rw[hfy];rfl) ?_;have ck1:Ck {y.2 with fun_:=(O3.some ({f with breaks:=qJ .i64 (f.breaks+1)}))}:=(hc.tg a.1).loops hfy f.loops _;have st0:=St.of hc a.1 hf;refine Og.loop (fun s=>0<=s.2.2.1/\s.2.2.1<=x.Cases.length/\(∃m,s.1=some m)/\((∀t∈s.2.2.2.1.A,Dp 70000 t)/\s.2.2.2.1.A.length<=1/\s.2.2.2.1.Post=[]/\s.2.2.2.1.Body=[]/\s.2.2.2.1.Else=[])/\(∀q∈s.2.2.2.1.Cases,(∀z∈q.Body,Ad (2*wS x-2) z)/\q.Body.length<=1000000000)/\s.2.2.2.1.Cases.length<=s.2.2.1/\St {y.2 with fun_:=(O3.some ({f with breaks:=qJ .i64 (f.breaks+1)}))} {s.2.2.2.2.1 with t:=s.2.2.2.2.2}) (fun s=>x.Cases.length-s.2.2.1.toNat) ⟨qC 0,by dsimp only;omega,⟨_,rfl⟩,⟨fun t ht=>by rw[kQ.1 ht];exact a.2.mono (by omega),by simp,rfl,rfl,rfl⟩,C3,by simp,St.refl ck1 rfl⟩ (by dsimp only;omega) ?_;rintro⟨x2,x13,x14,x15,x16,x17⟩ ⟨i1,i2,⟨m,i3⟩,i4,i5,i6,i7⟩
 dsimp only at i1 i2 i3 i4 i5 i6 i7⊢
 subst i3
 by_cases hlt:x14<x.Cases.length
 . rw[c1 (dt hlt)];obtain⟨u,hu,hum⟩:=O2 ⟨i1,hlt⟩;have oc:=hx.cases u hum;have wc:=Q6a wC hum;have wc2:wC u=1+sm wS u.Body:=rfl;refine Rn.step hu ?_
   have go:∀(m':List (Int×Bool))(b:Bool),Rn (((Q0s n).V4 {x16 with t:=x17} u.Body).bind fun y4=>exL y4 (fun y4=>(W8 (qQ x15.Cases+qQ ([{u with Body:=y4.1}]:List Q8a))).bind fun _=>some (Lp.go (some m',b,qJ .i64 (x14+1),{x15 with Cases:=x15.Cases++([{u with Body:=y4.1}]:List Q8a)},y4.2,y4.2.t)))) (NxG (fun s=>0<=s.2.2.1/\s.2.2.1<=x.Cases.length/\(∃m,s.1=some m)/\((∀t∈s.2.2.2.1.A,Dp 70000 t)/\s.2.2.2.1.A.length<=1/\s.2.2.2.1.Post=[]/\s.2.2.2.1.Body=[]/\s.2.2.2.1.Else=[])/\(∀q∈s.2.2.2.1.Cases,(∀z∈q.Body,Ad (2*wS x-2) z)/\q.Body.length<=1000000000)/\s.2.2.2.1.Cases.length<=s.2.2.1/\St {y.2 with fun_:=(O3.some ({f with breaks:=qJ .i64 (f.breaks+1)}))} {s.2.2.2.2.1 with t:=s.2.2.2.2.2}) (fun s=>x.Cases.length-s.2.2.1.toNat) (some m,x13,x14,x15,x16,x17) (fun o=>o.thn (fun(x2,x13,x14,x15,x16,x17)=>(O3.get x16.fun_).bind fun u10=>some (qX (x15,{x16 with t:=x17,fun_:=(O3.some ({u10 with breaks:=qJ .i64 (u10.breaks-1)}))}))) (fun r=>some r)) Ep (fun y=>St c y.2/\Ad (2*wS x-1) y.1)):=by
    intro m' b;refine Rn.bindG (h.block _ u.Body i7.ck oc.1 (by omega) (Sc.mono (Sc.st (k:=wS x) ⟨{f with breaks:=qJ .i64 (f.breaks+1)},rfl,hs1,hs2⟩ i7) (by omega)) (by omega)) (fun y4 a4=>?_) (fun e he=>Rn.ok (Og.err he));obtain⟨a1,a2,a3⟩:=a4;refine Rn.step (E1 (by simp;omega)) ?_;refine Rn.ok ⟨⟨by dsimp only;rw[w64 (by omega)];omega,by dsimp only;rw[w64 (by omega)];omega,⟨_,rfl⟩,i4,fun q hq=>?_,by dsimp only;rw[w64 (by omega),qW];simp;omega,i7.trans a1⟩,by dsimp only;rw[w64 (by omega)];omega⟩
    rcases jQ.1 hq with hq|hq
    . exact i5 q hq
    . rw[kQ.1 hq];exact⟨fun z hz=>(a2 z hz).mono (by omega),by dsimp only;omega⟩
   have er:∀{B:Type}(g:Unit->Option (Lp _ (Except (Z1×Q0) (K2×Q0)))),Rn ((X0 u.Pos 6).bind fun y5=>exC y5 g (fun e4=>some (Lp.ret (qK (e4,{x16 with t:=x17}))))) (NxG (S:=Option (List (Int×Bool))×Bool×Int×K2×Q0×Z5) (fun s=>0<=s.2.2.1/\s.2.2.1<=x.Cases.length/\(∃m,s.1=some m)/\((∀t∈s.2.2.2.1.A,Dp 70000 t)/\s.2.2.2.1.A.length<=1/\s.2.2.2.1.Post=[]/\s.2.2.2.1.Body=[]/\s.2.2.2.1.Else=[])/\(∀q∈s.2.2.2.1.Cases,(∀z∈q.Body,Ad (2*wS x-2) z)/\q.Body.length<=1000000000)/\s.2.2.2.1.Cases.length<=s.2.2.1/\St {y.2 with fun_:=(O3.some ({f with breaks:=qJ .i64 (f.breaks+1)}))} {s.2.2.2.2.1 with t:=s.2.2.2.2.2}) (fun s=>x.Cases.length-s.2.2.1.toNat) (some m,x13,x14,x15,x16,x17) (fun o=>o.thn (fun(x2,x13,x14,x15,x16,x17)=>(O3.get x16.fun_).bind fun u10=>some (qX (x15,{x16 with t:=x17,fun_:=(O3.some ({u10 with breaks:=qJ .i64 (u10.breaks-1)}))}))) (fun r=>some r)) Ep (fun y=>St c y.2/\Ad (2*wS x-1) y.1)):=fun g=>fail_l oc.2 (by decide) (fun e he=>Og.err he);have er:=@er Unit;cases hd:u.Default with
   |true=>
    simp only[hd]at go
    cases x13 with
    |true=>rw[c1 (b:=(true&&true)) rfl];exact er _
    |false=>rw[c0 (b:=(true&&false)) rfl,c0 (b:=!true) rfl,c1 (b:=true) rfl];exact go m true
   |false=>
    simp only[hd]at go
    rw[c0 (b:=(false&&x13)) rfl,c1 (b:=!false) rfl];cases(J5 (some m) u.Num).getD false with
    |true=>rw[c1 (b:=true) rfl];exact er _
    |false=>
     rw[c0 (b:=false) rfl,c0 (b:=false) rfl];exact Rn.step (x:=m) rfl (go _ x13)
 . rw[c0 (df hlt)];refine Rn.ok ?_;obtain⟨k,k',e1,e2,e3⟩:=i7.fn;cases e1;show Og Ep ((O3.get x16.fun_).bind _) _
   dsimp only at e2
   refine Og.step (x:=k') (by rw[e2];rfl) ?_;refine Og.ok ⟨st0.trans (St.loops hfy (a:=f.loops) i7 e2 k'.loops _),?_⟩;have e:2*wS x-1=(2*wS x-2)+1:=by omega
   rw[e];obtain⟨j1,j2,j3,j4,j5⟩:=i4;exact .mk j1 (by rw[j3];exact C3) (by rw[j4];exact C3) (by rw[j5];exact C3) (fun q hq=>(i5 q hq).1) ⟨by dsimp only;omega,by rw[j3];simp,by rw[j4];simp,by rw[j5];simp,by dsimp only;omega,fun q hq=>(i5 q hq).2⟩
theorem QA.one{c c':Q0}{n:Nat}{a:K2}(h:St c c')(ha:Ad n a)(hn:1<=n):QA c n ([a],c'):=⟨h,fun x hx=>by rw[kQ.1 hx];exact ha,by simp;omega⟩
theorem at0{α:Type}{l:List α}(h:1<=l.length):∃y,idx l 0=some y/\y∈l:=⟨l[0],P6 (k:=0) h,jT h⟩
theorem stmt_s6{n:Nat}(h:S6 n):∀c x,Ck c->OkY x->Sc c (wS x)->5*wS x+1<=n+1->Og Ep ((Q0s (n+1)).B3 c x) (QA c (2*wS x)):=by
 intro c x hc hx hs hn;show Og Ep (N8 (Q0s n) c x) _;unfold N8;have hw:=Z9j x;have hww:=hx.w;have hsa:=hx.sa;have pw:=Z7e x;obtain⟨f,hf,hs1,hs2⟩:=id hs;have tg:∀{c'},Tg c c'->St c c':=fun g=>St.of hc g hf;have w1:∀y∈x.A,6*wE y<=70000:=fun y hy=>by have:=(hx.A y hy).w;omega
 by_cases k1:x.Kind=1
 . rw[c1 (by rw[k1];rfl)];obtain⟨u,hu,hum⟩:=at0 (hsa.1 (.inl k1));have ou:=hx.A u hum;refine Og.step hu ?_;refine Og.bind (Y7w hc ou) (fun y a=>?_) (fun e he=>Og.err he);obtain⟨a1,t,a2,a3⟩:=a;exact Og.ok (QA.one (tg a1) (by rw[a2];exact Ad.flat (by omega) (fun t ht=>by rw[kQ.1 ht];exact a3.mono (w1 u hum))) (by omega))
 rw[c0 (by simpa using k1)]
 by_cases k2:x.Kind=2
 . rw[c1 (by rw[k2];rfl)];obtain⟨u,hu,hum⟩:=at0 (hsa.2 k2);obtain⟨v1,v2,v3,v4⟩:=hx.V u hum;refine Og.step hu ?_;refine Og.bind (Y9x hc hf hs1 v1 v2 v3 v4) (fun y a=>?_) (fun e he=>Og.err he);exact Og.ok ⟨a.1,fun z hz=>(a.2.1 z hz).mono (by omega),by have:=a.2.2;dsimp only;omega⟩
 rw[c0 (by simpa using k2)]
 by_cases k3:x.Kind=3
 . rw[c1 (by rw[k3];rfl)];obtain⟨u,hu,hum⟩:=at0 (hsa.1 (.inr (.inl k3)));refine Og.step hu ?_;refine Og.bind (one_g hc 2 (hx.A u hum)) (fun y a=>?_) (fun e he=>Og.err he);obtain⟨a1,t,a2,a3⟩:=a;have s1:=tg a1;refine Og.bind (h.block _ x.Body s1.ck hx.body (by omega) (Sc.mono (Sc.st hs s1) (by omega)) (by omega)) (fun y4 a4=>?_) (fun e he=>Og.err he);have s2:=s1.trans a4.1;refine Og.bind (h.block _ x.Else s2.ck hx.els (by omega) (Sc.mono (Sc.st hs s2) (by omega)) (by omega)) (fun y5 a5=>?_) (fun e he=>Og.err he);refine Og.ok (QA.one (s2.trans a5.1) ?_ (by omega));rw[a2];exact Ad.mono (n:=2*(sm wS x.Body+sm wS x.Else)+1) (.mk (fun t ht=>by rw[kQ.1 ht];exact a3.mono (w1 u hum)) C3 (fun z hz=>(a4.2.1 z hz).mono (by omega)) (fun z hz=>(a5.2.1 z hz).mono (by omega)) C3 ⟨by simp,by simp,by have:=a4.2.2;dsimp only;omega,by have:=a5.2.2;dsimp only;omega,by simp,C3⟩) (by omega)
 rw[c0 (by simpa using k3)]
 by_cases k4:x.Kind=4
 . rw[c1 (by rw[k4];rfl)];obtain⟨u,hu,hum⟩:=at0 (hsa.1 (.inr (.inr (.inl k4))));refine Og.step hu ?_;refine Og.bind (one_g hc 3 (hx.A u hum)) (fun y a=>?_) (fun e he=>Og.err he);obtain⟨a1,t,a2,a3⟩:=a;have s1:=tg a1;refine Og.bind (h.looped _ x.Body s1.ck hx.body (by omega) (Sc.mono (Sc.st hs s1) (by omega)) (by omega)) (fun y4 a4=>?_) (fun e he=>Og.err he);refine Og.ok (QA.one (s1.trans a4.1) ?_ (by omega));rw[a2];exact Ad.mono (n:=2*sm wS x.Body+1) (.mk (fun t ht=>by rw[kQ.1 ht];exact a3.mono (w1 u hum)) C3 a4.2.1 C3 C3 ⟨by simp,by simp,by have:=a4.2.2;dsimp only;omega,by simp,by simp,C3⟩) (by omega)
 rw[c0 (by simpa using k4)]
 by_cases k5:x.Kind=5
 . rw[c1 (by rw[k5];rfl)];refine Og.bind (h.looped _ x.Body hc hx.body (by omega) (Sc.mono hs (by omega)) (by omega)) (fun y4 a4=>?_) (fun e he=>Og.err he);obtain⟨u,hu,hum⟩:=at0 (hsa.1 (.inr (.inr (.inr (.inl k5)))));refine Og.step hu ?_;refine Og.bind (one_g a4.1.ck 3 (hx.A u hum)) (fun y a=>?_) (fun e he=>Og.err he);obtain⟨a1,t,a2,a3⟩:=a;refine Og.ok (QA.one (a4.1.step a1) ?_ (by omega));rw[a2];exact Ad.mono (n:=2*sm wS x.Body+1) (.mk (fun t ht=>by rw[kQ.1 ht];exact a3.mono (w1 u hum)) C3 a4.2.1 C3 C3 ⟨by simp,by simp,by have:=a4.2.2;dsimp only;omega,by simp,by simp,C3⟩) (by omega)
 rw[c0 (by simpa using k5)];have blk:∀{m:Nat}{l:List K2},(∀z∈l,Ad m z)->m+1<=2*wS x->l.length<=40000*m->Ad (2*wS x) (⟨8,[],[],false,l,[],[],0⟩:K2):=fun hl hm h3=>Ad.mono (.mk C3 C3 hl C3 C3 ⟨by simp,by simp,by dsimp only;omega,by simp,by simp,C3⟩) hm
 by_cases k6:x.Kind=6
 . rw[c1 (by rw[k6];rfl)];exact Og.bind (h.around c x hc hx hs (by omega)) (fun y a=>Og.ok (QA.one a.1 (blk a.2.1 (by omega) a.2.2) (by omega))) (fun e he=>Og.err he)
 rw[c0 (by simpa using k6)]
 by_cases k7:x.Kind=7
 . rw[c1 (by rw[k7];rfl)];exact Og.bind (h.choose c x hc hx hs (hsa.1 (.inr (.inr (.inr (.inr k7))))) (by omega)) (fun y a=>Og.ok (QA.one a.1 (a.2.mono (by omega)) (by omega))) (fun e he=>Og.err he)
 rw[c0 (by simpa using k7)]
 by_cases k8:x.Kind=8
 . rw[c1 (by rw[k8];rfl)];exact Og.bind (answer_g hc hf hx.pn hx.A) (fun y a=>Og.ok (QA.one (tg a.1) (a.2.mono (by omega)) (by omega))) (fun e he=>Og.err he)
 rw[c0 (by simpa using k8)]
 by_cases k11:x.Kind=11
 . rw[c1 (by rw[k11];rfl)];exact Og.bind (h.block c x.Body hc hx.body (by omega) (Sc.mono hs (by omega)) (by omega)) (fun y a=>Og.ok (QA.one a.1 (blk a.2.1 (by omega) a.2.2) (by omega))) (fun e he=>Og.err he)
 rw[c0 (by simpa using k11)];have s0:=tg (Tg.refl hc.tab)
 by_cases k9:x.Kind=9
 . rw[c1 (by rw[k9];rfl)];refine Og.step (x:=f) (by rw[hf];rfl) ?_;cases f.breaks==0 with
   |true=>rw[c1 (b:=true) rfl];exact Q0p hx.pn (by decide)
   |false=>exact Og.ok (QA.one s0 (Ad.flat (by omega) C3) (by omega))
 rw[c0 (by simpa using k9)]
 by_cases k10:x.Kind=10
 . rw[c1 (by rw[k10];rfl)];refine Og.step (x:=f) (by rw[hf];rfl) ?_;cases f.loops==0 with
   |true=>rw[c1 (b:=true) rfl];exact Q0p hx.pn (by decide)
   |false=>exact Og.ok (QA.one s0 (Ad.flat (by omega) C3) (by omega))
 rw[c0 (by simpa using k10)];exact Og.ok ⟨s0,C3,by simp⟩
theorem rdS6:∀n,S6 n
 |0=>⟨fun _ _ _ _ _ _ h=>by omega,fun _ _ _ _ _ _ h=>by omega,fun _ x _ _ _ h=>by have:=Z7e x;omega,fun _ x _ _ _ _ h=>by have:=Z7e x;omega,fun _ _ _ _ _ h=>by omega,fun _ _ _ _ _ _ h=>by omega⟩
 |n+1=>⟨block_s6 (rdS6 n),X2o (rdS6 n),X3g (rdS6 n),X2x (rdS6 n),stmt_s6 (rdS6 n),acts_s6 (rdS6 n)⟩
theorem acts_any{c:Q0}{l:List E0}(hc:Ck c)(hl:∀y∈l,OkS y)(hw:sm wS l<=5000)(hs:Sc c (sm wS l)):Og Ep (K3 c l) (QA c (2*sm wS l)):=(rdS6 NN).acts c l hc hl hw hs (by unfold NN;omega)
def Cd(q:Q1m):Prop:=(∀a∈q.Body,Ad 10000 a)/\q.Body.length<=1000000000/\q.Slots.length<=200
def Cn(c:Q0):Prop:=Ck {c with fun_:=O3.nil}
theorem Ck.codes{c:Q0}(h:Ck c){l:List Q1m}(hl:l.length=c.u.Codes.length):Ck {c with u:={c.u with Codes:=l}}:=⟨h.tab,h.gl,h.co,h.fn,h.gn,h.cn,h.ug,hl.trans h.uc,h.lg,h.lc⟩
theorem Ck.noFun{c:Q0}(h:Ck c):Cn c:=⟨h.tab,h.gl,h.co,trivial,h.gn,h.cn,h.ug,h.uc,h.lg,h.lc⟩
structure Bo(c:Q0)(i:Nat)(c':Q0):Prop where
 cn:Cn c'
 s:c'.signs=c.signs
 d:c'.u.Data=c.u.Data
 g:Gr c.t c'.t
 m:∃q,Cd q/\c'.u.Codes=qP c.u.Codes i q
theorem body_g{c:Q0}(hc:Cn c){i:Nat}(hi:i<c.signs.length){f:I1}(hf:OkF f)(hw:wF f<=5000)(hp:c.signs[i].params.length=f.Params.length):Og Ep (B8 c (i:Int) f) (Bo c i):=by
 unfold B8;have hwf:wF f=1+f.Ret.Stars.toNat+sm wV f.Params+sm wS f.Body:=rfl;have lp:=S7 Z2h f.Params;have huc:c.u.Codes.length=c.signs.length:=hc.uc;refine Og.step (P6 hi) ?_;have ck1:Ck {c with fun_:=(O3.some (⟨c.signs[i].ret,[],[],([(some [])]:List (Option (List ((List UInt8)×Int)))),0,0⟩:G0))}:=⟨hc.tab,hc.gl,hc.co,(⟨rfl,by simp,fun m hm=>by rw[kQ.1 hm];exact⟨[],rfl,fun a b hb=>by cases hb⟩,by simp⟩:Fn (⟨c.signs[i].ret,[],[],([(some [])]:List (Option (List ((List UInt8)×Int)))),0,0⟩:G0)),hc.gn,hc.cn,hc.ug,hc.uc,hc.lg,hc.lc⟩;refine Og.loop (fun s=>0<=s.2.1/\s.2.1<=f.Params.length/\St {c with fun_:=(O3.some (⟨c.signs[i].ret,[],[],([(some [])]:List (Option (List ((List UInt8)×Int)))),0,0⟩:G0))} {s.2.2 with t:=(⟨s.1⟩:Z5)}) (fun s=>f.Params.length-s.2.1.toNat) ⟨qC 0,by dsimp only;omega,St.refl ck1 rfl⟩ (by dsimp only;omega) ?_;rintro⟨x2,x10,x11⟩ ⟨i1,i2,i3⟩
 dsimp only at i1 i2 i3⊢
 have hsg:x11.signs=c.signs:=by
  have e:=i3.eq;have:=congrArg Q0.signs e;exact this
 by_cases hlt:x10<f.Params.length
 . rw[c1 (dt hlt)];obtain⟨v,hv,hvm⟩:=O2 ⟨i1,hlt⟩;refine Rn.step hv ?_;refine Rn.step (show idx x11.signs (i:Int)=some c.signs[i] by rw[hsg];exact P6 hi) ?_;obtain⟨p,hp2,_⟩:=O2 (l:=c.signs[i].params) (n:=x10) ⟨i1,by rw[hp];exact hlt⟩;refine Rn.step hp2 ?_;obtain⟨k,k',e1,e2,e3⟩:=i3.fn;cases e1;refine Rn.bindG (Y6c i3.ck e2 (by rw[e3];exact qD 1) (hf.ps v hvm).pos _ _) (fun y a=>?_) (fun e he=>Rn.ok (Og.err he));exact Rn.ok ⟨⟨by dsimp only;rw[w64 (by omega)];omega,by dsimp only;rw[w64 (by omega)];omega,i3.trans a⟩,by dsimp only;rw[w64 (by omega)];omega⟩
 . rw[c0 (df hlt)];refine Rn.ok ?_;obtain⟨k,k',e1,e2,e3⟩:=i3.fn;cases e1;show Og Ep ((K3 _ _).bind _) _;refine Og.bind (acts_any i3.ck hf.body (by omega) ⟨k',e2,by rw[e3];exact qD 1,by rw[e3];show 1+_<=_;omega⟩) (fun y a=>?_) (fun e he=>Og.err he);have st:=i3.trans a.1;obtain⟨q,q',f1,f2,f3⟩:=st.fn;cases f1;have hfq:=st.ck.fn;rw[f2]at hfq;have hfq:Fn q':=hfq
   have eu:y.2.u=c.u:=by
    have e:=congrArg Q0.u st.eq;exact e
   have es:y.2.signs=c.signs:=by
    have e:=congrArg Q0.signs st.eq;exact e
   have hlc:i<y.2.u.Codes.length:=by rw[eu];omega
   refine Og.step (x:=q') (by rw[f2];rfl) ?_;obtain⟨u8,hu8⟩:∃u,idx y.2.u.Codes (i:Int)=some u:=⟨_,P6 hlc⟩;refine Og.step hu8 ?_;refine Og.step hu8 ?_
   have hl2:idx (qP y.2.u.Codes (qF (i:Int)) ({u8 with Body:=y.1})) (i:Int)=some {u8 with Body:=y.1}:=by
    rw[Int.toNat_natCast,P6 (by rw[List.length_set];exact hlc),List.getElem_set_self]
   refine Og.step hl2 ?_;refine Og.step hl2 ?_;refine Og.ok ⟨(st.ck.codes (by simp)).noFun,es,by dsimp only;rw[eu],st.gr,_,?_,by dsimp only;rw[eu,Int.toNat_natCast,List.set_set]⟩;exact⟨fun z hz=>(a.2.1 z hz).mono (by omega),by have:=a.2.2;dsimp only;omega,hfq.le⟩
structure Uo(u:Q9x):Prop where
 g:u.Globals.length<=200
 d:u.Data.length<=5000
 c:u.Codes.length<=200
 cd:∀q∈u.Codes,Cd q
theorem try_g{p:K1}(hp:OkP p)(hw:wP p<=5000){c:Q0}(hc:Ck c)(hf:c.fun_=O3.nil)(h0:c.signs=[])(hd:c.u.Data=[]):Og Ep (Q0e c p) (fun c'=>Uo c'.u):=by
 have hwp:wP p=sm wT p.Structs+sm wV p.Globals+sm wF p.Funcs:=rfl;have lS:=S7 Y3f p.Structs;have lG:=S7 Z2h p.Globals;have lF:=S7 Y1o p.Funcs
 have oV:∀{v:G9}{k:Nat},wV v<=k->k<=5000->v.Dims.length<=5000/\(∀x∈v.Init,wE x<=10000)/\v.Init.length<=5000:=fun{v k} h1 h2=>by
  have h3:wV v=1+v.Type_.Stars.toNat+v.Dims.length+sm wE v.Init:=rfl;have h4:=S7 Q2u v.Init;exact⟨by omega,fun x hx=>by have:=Q6a wE hx;omega,by omega⟩
 unfold Q0e;refine Og.bind (Y5p hc.tab (by omega) (fun s hs=>?_)) (fun y1 a1=>?_) (fun e he=>Og.err he)
 . have h1:=Q6a wT hs;have h2:wT s=1+sm wV s.Fields:=rfl;have h3:=hp.s s hs;have h4:=S7 Z2h s.Fields;exact⟨h3.2.2,fun v hv=>⟨h3.2.1 v hv,by have:=Q6a wV hv;have:wV v=1+v.Type_.Stars.toNat+v.Dims.length+sm wE v.Init:=rfl;omega⟩,by omega⟩
 have e1:=a1.eq;have ck1:=hc.tt a1;have f1:y1.fun_=c.fun_:=by rw[e1]
 have s1:y1.signs=[]:=by rw[e1];exact h0
 have d1:y1.u.Data=[]:=by rw[e1];exact hd
 refine Og.loop (fun s=>0<=s.1/\s.1<=p.Globals.length/\Ck {s.2.1 with t:=s.2.2}/\s.2.1.fun_=O3.nil/\s.2.1.signs=[]/\(s.2.1.u.Data.length:Int)=s.1) (fun s=>p.Globals.length-s.1.toNat) ⟨qC 0,by dsimp only;omega,by dsimp only;rw[<-f1];exact ck1,hf,s1,by dsimp only;rw[d1];rfl⟩ (by dsimp only;omega) ?_;rintro⟨x10,x11,x12⟩ ⟨i1,i2,i3,i4,i5,i6⟩
 dsimp only at i1 i2 i3 i4 i5 i6⊢
 by_cases hlt:x10<p.Globals.length
 . rw[c1 (dt hlt)];obtain⟨v,hv,hvm⟩:=O2 ⟨i1,hlt⟩;have hwv:=Q6a wV hvm;obtain⟨v1,v2,v3⟩:=oV hwv (by omega);refine Rn.step hv ?_;refine Rn.bindG (Y8z i3 (hp.g v hvm) v1 v2 v3 (by dsimp only;omega)) (fun y a=>?_) (fun e he=>Rn.ok (Og.err he));exact Rn.ok ⟨⟨by dsimp only;rw[w64 (by omega)];omega,by dsimp only;rw[w64 (by omega)];omega,a.ck,a.f.trans i4,a.s.trans i5,by have:=a.d;dsimp only at this⊢;rw[w64 (by omega)];omega⟩,by dsimp only;rw[w64 (by omega)];omega⟩
 rw[c0 (df hlt)];refine Rn.ok ?_;show Og Ep ((X8 _ NN _).bind _) _
 clear hlt
 refine Og.loop (fun s=>0<=s.1/\s.1<=p.Funcs.length/\Ck {s.2.1 with t:=s.2.2}/\s.2.1.fun_=O3.nil/\(s.2.1.signs.length:Int)=s.1/\(∀(j:Nat)(a:G8)(f:I1),s.2.1.signs[j]?=some a->p.Funcs[j]?=some f->a.params.length=f.Params.length)/\s.2.1.u.Data.length<=5000) (fun s=>p.Funcs.length-s.1.toNat) ⟨qC 0,by dsimp only;omega,i3,i4,by dsimp only;rw[i5];rfl,fun j a f h=>(by dsimp only at h;rw[i5]at h;simp at h),by dsimp only;omega⟩ (by dsimp only;omega) ?_
 clear i3 i4 i5 i6
 rintro⟨x22,x23,x24⟩ ⟨j1,j2,j3,j4,j5,j6,j7⟩
 dsimp only at j1 j2 j3 j4 j5 j6 j7⊢
 by_cases hlt:x22<p.Funcs.length
 . rw[c1 (dt hlt)];obtain⟨k,rfl⟩:=jR j1;have hk:k<p.Funcs.length:=by omega
   have hm:=jT hk;have ho:=hp.f _ hm;have hwv:=Q6a wF hm;have hwf:wF p.Funcs[k]=1+p.Funcs[k].Ret.Stars.toNat+sm wV p.Funcs[k].Params+sm wS p.Funcs[k].Body:=rfl;have lp:=S7 Z2h p.Funcs[k].Params;refine Rn.step (P6 hk) ?_;refine Rn.bindG (Y8x j3 ⟨ho.pos,ho.ty,ho.ps,by omega⟩) (fun y a=>?_) (fun e he=>Rn.ok (Og.err he));obtain⟨sg,sg1,sg2⟩:=a.s
   dsimp only at sg1
   have fn:=a.f
   dsimp only at fn
   refine Rn.ok ⟨⟨by dsimp only;rw[w64 (by omega)];omega,by dsimp only;rw[w64 (by omega)];omega,?_,j4,by dsimp only;rw[w64 (by omega),sg1,qW];simp;omega,fun j b f h1 h2=>?_,by have:=a.d;dsimp only at this⊢;rw[this];exact j7⟩,by dsimp only;rw[w64 (by omega)];omega⟩
   . dsimp only
     rw[<-fn];exact a.ck
   . dsimp only at h1
     rw[sg1]at h1
     by_cases hj:j<x23.signs.length
     . rw[kR hj]at h1;exact j6 j b f h1 h2
     . have hjk:j=k:=by
        have:=(List.getElem?_eq_some_iff.1 h1).1;rw[qW,qG]at this;omega
       subst hjk;rw[kS (by omega),show j-x23.signs.length=0 by omega]at h1;cases h1;rw[kM hk]at h2;cases h2;exact sg2
 rw[c0 (df hlt)];refine Rn.ok ?_;show Og Ep ((N0 _ _).bind _) _;have hFl:x23.signs.length=p.Funcs.length:=by omega
 refine Og.bind (main_g j3 (by dsimp only;omega) (fun f hf=>(hp.f f hf).pos)) (fun y4 a4=>?_) (fun e he=>Og.err he);obtain⟨mn,rfl⟩:=a4
 dsimp only
 have ck4:Cn {x23 with t:=x24,u:={x23.u with Main:=mn}}:=⟨j3.tab,j3.gl,j3.co,trivial,j3.gn,j3.cn,j3.ug,j3.uc,j3.lg,j3.lc⟩;have hcl:=ck4.lc
 dsimp only at hcl
 refine Og.loop (fun s=>0<=s.1/\s.1<=p.Funcs.length/\Cn {s.2.1 with t:=s.2.2}/\s.2.1.signs=x23.signs/\s.2.1.u.Data=x23.u.Data/\(∀(j:Nat)(q:Q1m),(j:Int)<s.1->s.2.1.u.Codes[j]?=some q->Cd q)) (fun s=>p.Funcs.length-s.1.toNat) ⟨qC 0,by dsimp only;omega,ck4,rfl,rfl,fun j q h=>by dsimp only at h;omega⟩ (by dsimp only;omega) ?_
 clear ck4 j3 hlt
 rintro⟨x34,x35,x36⟩ ⟨k1,k2,k3,k4,k5,k6⟩
 dsimp only at k1 k2 k3 k4 k5 k6⊢
 have huc:=k3.uc;have hug:=k3.ug;have hlg:=k3.lg
 dsimp only at huc hug hlg
 by_cases hlt:x34<p.Funcs.length
 . rw[c1 (dt hlt)];obtain⟨k,rfl⟩:=jR k1;have hk:k<p.Funcs.length:=by omega
   have hm:=jT hk;have ho:=hp.f _ hm;have hwv:=Q6a wF hm;have hs:k<({x35 with t:=x36}:Q0).signs.length:=by dsimp only;rw[k4];omega
   have hsp:({x35 with t:=x36}:Q0).signs[k].params.length=p.Funcs[k].Params.length:=by
    refine j6 k _ _ ?_ (kM hk);rw[<-k4];exact kM hs
   refine Rn.step (P6 hk) ?_;refine Rn.bindG (body_g k3 hs ho (by omega) hsp) (fun y a=>?_) (fun e he=>Rn.ok (Og.err he));obtain⟨q,q1,q2⟩:=a.m;refine Rn.ok ⟨⟨by dsimp only;rw[w64 (by omega)];omega,by dsimp only;rw[w64 (by omega)];omega,a.cn,a.s.trans k4,a.d.trans k5,fun j r h1 h2=>?_⟩,by dsimp only;rw[w64 (by omega)];omega⟩
   dsimp only at h1 h2
   rw[w64 (by omega)]at h1;rw[q2,List.getElem?_set]at h2
   split at h2
   . split at h2
     . cases h2;exact q1
     . cases h2
   . exact k6 j r (by omega) h2
 . rw[c0 (df hlt)];refine Rn.ok (Og.ok ⟨by dsimp only;omega,by dsimp only;rw[k5];exact j7,by dsimp only;rw[huc,k4];exact hcl,fun q hq=>?_⟩);obtain⟨j,hj,rfl⟩:=List.getElem_of_mem hq
   dsimp only at hj
   exact k6 j _ (by rw[huc,k4]at hj;omega) (kM hj)
theorem newTab:∃t,Y1b=some t/\Tab t:=by
 refine⟨_,rfl,by decide,by decide,fun k hk=>?_⟩
 simp only[qZ,List.not_mem_nil,or_false]at hk
 rcases hk with rfl|rfl|rfl
 . exact⟨by decide,by decide,fun h=>absurd rfl h,fun h=>(by cases h),fun h=>(by cases h),by simp⟩
 . exact⟨by decide,by decide,fun _=>(by decide),fun h=>(by cases h),fun h=>(by cases h),by simp⟩
 . exact⟨by decide,by decide,fun _=>(by decide),fun h=>(by cases h),fun h=>(by cases h),by simp⟩
theorem X3j{p:K1}(hp:OkP p)(hw:wP p<=5000):∃u q e,Q1y p=some (u,q,e)/\((e=0/\q=⟨0,0⟩)\/(e≠0/\Pn q))/\Uo u:=by
 obtain⟨t,ht,hT⟩:=newTab;unfold Q1y;rw[ht,qV];have h:=try_g hp hw (c:=⟨t,⟨[],[],[],0⟩,some [],some [],[],[],O3.nil⟩) ⟨hT,⟨[],rfl,fun a b h=>(by cases h)⟩,⟨[],rfl,fun a b h=>(by cases h)⟩,trivial,rfl,rfl,rfl,rfl,by simp,by simp⟩ rfl rfl rfl;obtain⟨z,hz,hq⟩:=h;rw[hz,qV];cases z with
 |error e=>exact⟨_,_,_,rfl,.inr ⟨hq.2,hq.1⟩,⟨by simp,by simp,by simp,fun q h=>by cases h⟩⟩
 |ok c'=>exact⟨_,_,_,rfl,.inl ⟨rfl,rfl⟩,hq⟩
section
structure Mo where
 zc:Q1m
 zs:G8
 k:Int
class Xk(Z:Type) where
 bad:Z->Prop
 ex:Mo->Z->Z
instance(priority:=low){A:Type}:Xk A:=⟨fun _=>False,fun _ x=>x⟩
def Q7d:List UInt8:=[122,122,57]
def xc(o:Mo)(c:Q0):Q0:={c with u:={c.u with Codes:=c.u.Codes++[o.zc]},codes:=c.codes.map (fun m=>m++[(Q7d,o.k)]),signs:=c.signs++[o.zs]}
instance:Xk Q0:=⟨fun _=>False,xc⟩
instance{A B:Type}[Xk A][Xk B]:Xk (A×B):=⟨fun _=>False,fun o z=>(Xk.ex o z.1,Xk.ex o z.2)⟩
instance{E A:Type}[Xk A]:Xk (Except E A):=⟨fun| .ok _=>False| .error _=>True,fun o=>fun| .ok x=> .ok (Xk.ex o x)| .error e=> .error e⟩
instance{S R:Type}[Xk S][Xk R]:Xk (Lp S R):=⟨fun| .ret x=>Xk.bad x|_=>False,fun o=>fun| .go s=> .go (Xk.ex o s)| .brk s=> .brk (Xk.ex o s)| .ret x=> .ret (Xk.ex o x)⟩
variable{o:Mo}{c:Q0}
def Ky{Z:Type}[Xk Z](o:Mo)(y y':Option Z):Prop:=∀z,y=some z->Xk.bad z\/y'=some (Xk.ex o z)
def Kn{Z:Type}[Xk Z](y:Option Z):Prop:=∀z,y=some z->Xk.bad z
section
variable{Z X E A S R B:Type}[Xk Z][Xk X][Xk A][Xk S][Xk R]
theorem Ky.ok{z z':Z}(h:z'=Xk.ex o z:=by rfl):Ky o (some z) (some z'):=fun x e=>by cases e;rw[h];exact .inr rfl
theorem Ky.er{z:Z}{y':Option Z}(h:Xk.bad z:=by trivial):Ky o (some z) y':=fun x e=>by cases e;exact .inl h
theorem Ky.nk{y y':Option Z}(h:Kn y):Ky o y y':=fun z e=> .inl (h z e)
theorem Ky.none{y':Option Z}:Ky o none y':=fun z e=>by cases e
theorem Ky.sk{m:Option B}{f f':B->Option Z}(k:∀x,m=some x->Ky o (f x) (f' x)):Ky o (m.bind f) (m.bind f'):=by
 cases hm:m with
 |none=>exact .none
 |some x=>exact k x hm
theorem Ky.bx{m m':Option (Except E A)}{f f':A->Option Z}{k k':E->Option Z}(s:Ky o m m')(d:∀x,m=some (.ok x)->Ky o (f x) (f' (Xk.ex o x)))(e:∀x,Kn (k x)):Ky o (m.bind fun y=>exC y f k) (m'.bind fun y=>exC y f' k'):=by
 cases hm:m with
 |none=>exact .none
 |some y=>
  cases y with
  |error x=>exact .nk (e x)
  |ok x=>
   rcases s _ hm with h|h
   . exact h.elim
   . rw[h];exact d x hm
theorem Ky.bs{D:Type}{m:Option (Except E D)}{f f':D->Option Z}{k k':E->Option Z}(d:∀x,m=some (.ok x)->Ky o (f x) (f' x))(e:∀x,Kn (k x)):Ky o (m.bind fun y=>exC y f k) (m.bind fun y=>exC y f' k'):=by
 cases hm:m with
 |none=>exact .none
 |some y=>
  cases y with
  |error x=>exact .nk (e x)
  |ok x=>exact d x hm
theorem Ky.cd{b:Bool}{x y x' y':Option Z}(h:Ky o x x')(k:Ky o y y'):Ky o (bif b then x else y) (bif b then x' else y'):=by cases b<;>assumption
theorem Ky.lp{b b':S->Option (Lp S R)}(hb:∀s,Ky o (b s) (b' (Xk.ex o s))):∀n s,Ky o (X8 b n s) (X8 b' n (Xk.ex o s)):=by
 intro n
 induction n with
 |zero=>intro s z e;cases e
 |succ n ih=>
  intro s z e;unfold X8 at e⊢;cases hy:b s with
  |none=>rw[hy]at e;cases e
  |some p=>
   rw[hy]at e
   rcases hb s p hy with h|h
   . cases p with
     |go s1=>exact h.elim
     |brk s1=>exact h.elim
     |ret x=>cases e;exact .inl h
   . rw[h];cases p with
     |go s1=>exact ih s1 z e
     |brk s1=>cases e;exact .inr rfl
     |ret x=>cases e;exact .inr rfl
theorem Ky.tn{y y':Option (Lp S R)}{f f':S->Option Z}{g g':R->Option Z}(s:Ky o y y')(d:∀x,Ky o (f x) (f' (Xk.ex o x)))(j:∀x,Ky o (g x) (g' (Xk.ex o x)))(e:∀x,Xk.bad x->Kn (g x)):Ky o (y.bind fun p=>p.thn f g) (y'.bind fun p=>p.thn f' g'):=by
 cases hm:y with
 |none=>exact .none
 |some p=>
  rcases s _ hm with h|h
  . cases p with
    |go s1=>exact h.elim
    |brk s1=>exact h.elim
    |ret x=>exact .nk (e x h)
  . rw[h];cases p with
    |go s1=>exact .none
    |brk s1=>exact d s1
    |ret x=>exact j x
theorem Kn.er{z:Z}(h:Xk.bad z:=by trivial):Kn (some z):=fun x e=>by cases e;exact h
theorem Kn.none:Kn (Z:=Z) none:=fun z e=>by cases e
theorem Kn.sk{m:Option B}{f:B->Option Z}(k:∀x,m=some x->Kn (f x)):Kn (m.bind f):=by
 cases hm:m with
 |none=>exact .none
 |some x=>exact k x hm
theorem Kn.bx{D:Type}{m:Option (Except E D)}{f:D->Option Z}{k:E->Option Z}(s:∀x,m=some (.ok x)->Kn (f x))(e:∀x,Kn (k x)):Kn (m.bind fun y=>exC y f k):=by
 cases hm:m with
 |none=>exact .none
 |some y=>
  cases y with
  |error x=>exact e x
  |ok x=>exact s x hm
theorem Kn.cd{b:Bool}{x y:Option Z}(h:Kn x)(k:Kn y):Kn (bif b then x else y):=by cases b<;>assumption
theorem Kn.rt{x:R}(h:Xk.bad x):Kn (Z:=R) (some x):=fun z e=>by cases e;exact h
end
theorem Y3h(p:Pos)(x:F9):Ky o (K7 c p x) (K7 (xc o c) p x):=by
 unfold K7
 dsimp only[jn]
 have lp:∀x1:Int,Ky o ((X8 (fun(x3,x4,x5)=>(bif decide (x4<x.Stars)then((Q0u x5 x3).bind fun y3=>(R4 p y3.2.1).bind fun y4=>exC y4 (fun y4=>some (Lp.go (y3.1,qJ .i64 (x4+1),y3.2.2))) (fun e2=>some (Lp.ret (qK (e2,{c with t:=y3.2.2})))))else(some (Lp.brk (x3,x4,x5))):Option (Lp (Int×Int×Z5) (Except (Z1×Q0) (Int×Q0))))) NN (x1,(0:Int),c.t)).bind fun p1=>p1.thn (fun(x3,x4,x5)=>some (qX (ε:=Z1×Q0) (x3,{c with t:=x5}))) (fun r=>some r)) ((X8 (fun(x3,x4,x5)=>(bif decide (x4<x.Stars)then((Q0u x5 x3).bind fun y3=>(R4 p y3.2.1).bind fun y4=>exC y4 (fun y4=>some (Lp.go (y3.1,qJ .i64 (x4+1),y3.2.2))) (fun e2=>some (Lp.ret (qK (e2,{xc o c with t:=y3.2.2})))))else(some (Lp.brk (x3,x4,x5))):Option (Lp (Int×Int×Z5) (Except (Z1×Q0) (Int×Q0))))) NN (x1,(0:Int),(xc o c).t)).bind fun p1=>p1.thn (fun(x3,x4,x5)=>some (qX (ε:=Z1×Q0) (x3,{xc o c with t:=x5}))) (fun r=>some r)):=fun x1=>
  Ky.tn (Ky.lp (fun s=>Ky.cd (Ky.sk fun y _=>Ky.bs (fun z _=> .ok) fun e=> .er) .ok) NN (x1,(0:Int),c.t)) (fun x=> .ok) (fun x=> .ok) (fun x hx=>Kn.rt hx)
 repeat'(first|exact lp _|refine Ky.cd ?_ ?_|refine Ky.bs (fun x _=>?_) (fun e=>?_)|exact Kn.er|refine Ky.sk fun x _=>?_)
theorem dimsOf_k(v:G9):Ky o (M0 c v) (M0 (xc o c) v):=by
 unfold M0;refine Ky.bx (Y3h _ _) (fun a _=>?_) (fun e=> .er);refine Ky.tn (Ky.lp (fun s=>?_) NN (a.1,qJ .i64 ((qQ v.Dims:Int)-1),a.2.t)) (fun x=> .ok) (fun x=> .ok) (fun x hx=>Kn.rt hx);exact Ky.cd (Ky.sk fun y _=>Ky.sk fun y _=>Ky.bs (fun z _=> .ok) fun e=> .er) .ok
theorem varOf_k(v:G9):Ky o (I3 c v) (I3 (xc o c) v):=by
 unfold I3;exact Ky.bx (dimsOf_k v) (fun a _=>Ky.sk fun y _=>Ky.cd (Ky.bs (fun z _=> .none) fun e=> .er) .ok) fun e=> .er
theorem Y7b(p:Pos)(n:Int):Ky o (I4 c p n) (I4 (xc o c) p n):=by
 unfold I4;exact Ky.sk fun y _=>Ky.bs (fun z _=> .ok) fun e=> .er
theorem name_k(x:Y2):Ky o (O4 c x) (O4 (xc o c) x):=by
 unfold O4
 dsimp only[jn]
 have tl:Ky o (bif !((J5 c.globals x.Name).isSome)then((X0 x.Pos 4).bind fun y2=>exC y2 (fun y2=>none) (fun e1=>some (qK (e1,c))))else((idx c.gtypes ((J5 c.globals x.Name).getD 0)).bind fun u5=>some (qX (ε:=Z1×Q0) ((⟨u5,(⟨2,0,0,(J5 c.globals x.Name).getD 0,true,0,false,true,[]⟩:Y1),true⟩:Z8),c)))) (bif !((J5 (xc o c).globals x.Name).isSome)then((X0 x.Pos 4).bind fun y2=>exC y2 (fun y2=>none) (fun e1=>some (qK (e1,xc o c))))else((idx (xc o c).gtypes ((J5 (xc o c).globals x.Name).getD 0)).bind fun u5=>some (qX (ε:=Z1×Q0) ((⟨u5,(⟨2,0,0,(J5 (xc o c).globals x.Name).getD 0,true,0,false,true,[]⟩:Y1),true⟩:Z8),xc o c)))):=
  Ky.cd (Ky.bs (fun z _=> .none) fun e=> .er) (Ky.sk fun y _=> .ok)
 exact Ky.sk fun y _=>Ky.cd (Ky.sk fun y _=>Ky.sk fun y _=>Ky.cd (Ky.sk fun y _=> .ok) tl) tl
theorem told_k(p:Pos)(v:Z8):Ky o (P9 c p v) (P9 (xc o c) p v):=by
 unfold P9
 dsimp only[jn]
 repeat'(first|exact Ky.ok|exact Ky.er|exact Ky.none|exact Kn.er|refine Ky.cd ?_ ?_|refine Ky.bx (Y7b _ _) (fun x _=>?_) (fun e=>?_)|refine Ky.bs (fun x _=>?_) (fun e=>?_)|refine Ky.sk fun x _=>?_)
set_option maxRecDepth 4000
variable{o:Mo}{c:Q0}
theorem Ky.si{Z B:Type}[Xk Z]{m m':Option B}{f f':B->Option Z}(s:∀x,m=some x->m'=some x)(k:∀x,m=some x->Ky o (f x) (f' x)):Ky o (m.bind f) (m'.bind f'):=by
 cases hm:m with
 |none=>exact .none
 |some x=>rw[s x hm];exact k x hm
theorem Q8v{A:Type}{l r:List A}{i:Int}{x:A}(h:idx l i=some x):idx (l++r) i=some x:=by
 unfold idx at h⊢
 split at h
 . rename_i h0
   rw[if_pos h0,kR ((List.getElem?_eq_some_iff.1 h).1)];exact h
 . cases h
theorem X2n{m:List (List UInt8×Int)}{l:List (List UInt8×Int)}{k:List UInt8}{v:Int}(h:Q4x m k=some v):Q4x (m++l) k=some v:=by
 induction m with
 |nil=>cases h
 |cons p m ih=>
  rw[List.cons_append];unfold Q4x at h⊢
  split at h
  . rename_i h0;rw[if_pos h0];exact h
  . rename_i h0;rw[if_neg h0];exact ih h
theorem Y4o{k:List UInt8}{v:Int}(h:J5 c.codes k=some v):J5 (xc o c).codes k=some v:=by
 unfold xc J5 at*
 dsimp only
 cases hc:c.codes with
 |none=>rw[hc]at h;cases h
 |some m=>rw[hc]at h;exact X2n h
theorem kyA{Z:Type}[Xk Z]{y y':Option Z}(h:Ky o y y':=by repeat'(first|exact Ky.ok|exact Ky.er|exact Ky.none|exact Kn.er|exact Kn.none|refine Ky.cd ?_ ?_|refine Ky.bx (by first|exact Y7b _ _|exact told_k _ _|exact Y3h _ _|exact name_k _|exact g.asked _ _|exact g.number _ _|exact g.unary _ _|exact g.binary _ _|exact g.lying _ _|exact g.assign _ _|exact g.cond _ _|exact g.call _ _|exact g.member _ _|exact g.step _ _|exact g.expr _ _|exact g.value _ _|exact g.both _ _ _|exact exprK _ _|exact valueK _ _|exact askedK _ _|exact Y7h _ _|exact g.block _ _|exact g.looped _ _|exact g.around _ _|exact g.choose _ _|exact g.stmt _ _|exact g.acts _ _|exact X1x _ _|exact one_k _ _ _|exact Y9s _ _|exact Y3g _ _) (fun x _=>?_) (fun e=>?_)|refine Ky.tn (Ky.lp (fun s=>?_) NN _) (fun x=>?_) (fun x=> .ok) (fun x hx=>Kn.rt hx)|refine Ky.bs (fun x _=>?_) (fun e=>?_)|refine Ky.sk fun x _=>?_)):Ky o y y':=h
structure Y3(o:Mo)(n:Nat):Prop where
 asked:∀c x,Ky o ((F2 n).V5 c x) ((F2 n).V5 (xc o c) x)
 number:∀c x,Ky o ((F2 n).V2 c x) ((F2 n).V2 (xc o c) x)
 unary:∀c x,Ky o ((F2 n).E8 c x) ((F2 n).E8 (xc o c) x)
 binary:∀c x,Ky o ((F2 n).F5 c x) ((F2 n).F5 (xc o c) x)
 lying:∀c x,Ky o ((F2 n).F1 c x) ((F2 n).F1 (xc o c) x)
 assign:∀c x,Ky o ((F2 n).F6 c x) ((F2 n).F6 (xc o c) x)
 cond:∀c x,Ky o ((F2 n).B6 c x) ((F2 n).B6 (xc o c) x)
 call:∀c x,Ky o ((F2 n).B7 c x) ((F2 n).B7 (xc o c) x)
 member:∀c x,Ky o ((F2 n).F4 c x) ((F2 n).F4 (xc o c) x)
 step:∀c x,Ky o ((F2 n).B4 c x) ((F2 n).B4 (xc o c) x)
 expr:∀c x,Ky o ((F2 n).U0 c x) ((F2 n).U0 (xc o c) x)
 value:∀c x,Ky o ((F2 n).Z3 c x) ((F2 n).Z3 (xc o c) x)
 both:∀c k x,Ky o ((F2 n).G4 c k x) ((F2 n).G4 (xc o c) k x)
section
variable{n:Nat}
theorem asked_k(g:Y3 o n):∀c x,Ky o (H9 (F2 n) c x) (H9 (F2 n) (xc o c) x):=by
 intro c x;unfold H9
 try dsimp only[jn]
 exact kyA
theorem number_k(g:Y3 o n):∀c x,Ky o (A0 (F2 n) c x) (A0 (F2 n) (xc o c) x):=by
 intro c x;unfold A0
 try dsimp only[jn]
 exact kyA
theorem unary_k(g:Y3 o n):∀c x,Ky o (H6 (F2 n) c x) (H6 (F2 n) (xc o c) x):=by
 intro c x;unfold H6
 try dsimp only[jn]
 exact kyA
theorem binary_k(g:Y3 o n):∀c x,Ky o (A4 (F2 n) c x) (A4 (F2 n) (xc o c) x):=by
 intro c x;unfold A4
 try dsimp only[jn]
 exact kyA
theorem lying_k(g:Y3 o n):∀c x,Ky o (H7 (F2 n) c x) (H7 (F2 n) (xc o c) x):=by
 intro c x;unfold H7
 try dsimp only[jn]
 exact kyA
theorem assign_k(g:Y3 o n):∀c x,Ky o (A5 (F2 n) c x) (A5 (F2 n) (xc o c) x):=by
 intro c x;unfold A5
 try dsimp only[jn]
 exact kyA
theorem cond_k(g:Y3 o n):∀c x,Ky o (L7 (F2 n) c x) (L7 (F2 n) (xc o c) x):=by
 intro c x;unfold L7
 try dsimp only[jn]
 exact kyA
theorem member_k(g:Y3 o n):∀c x,Ky o (A1 (F2 n) c x) (A1 (F2 n) (xc o c) x):=by
 intro c x;unfold A1
 try dsimp only[jn]
 exact kyA
theorem step_k(g:Y3 o n):∀c x,Ky o (L5 (F2 n) c x) (L5 (F2 n) (xc o c) x):=by
 intro c x;unfold L5
 try dsimp only[jn]
 exact kyA
theorem expr_k(g:Y3 o n):∀c x,Ky o (N9 (F2 n) c x) (N9 (F2 n) (xc o c) x):=by
 intro c x;unfold N9
 try dsimp only[jn]
 exact kyA
theorem value_k(g:Y3 o n):∀c x,Ky o (P7 (F2 n) c x) (P7 (F2 n) (xc o c) x):=by
 intro c x;unfold P7
 try dsimp only[jn]
 exact kyA
theorem both_k(g:Y3 o n):∀c k x,Ky o (L9 (F2 n) c k x) (L9 (F2 n) (xc o c) k x):=by
 intro c k x;unfold L9;exact kyA
theorem call_k(g:Y3 o n):∀c x,Ky o (L8 (F2 n) c x) (L8 (F2 n) (xc o c) x):=by
 intro c x;unfold L8
 dsimp only[jn]
 refine Ky.cd .ok (Ky.cd (Ky.sk fun y _=>Ky.bx (g.number _ _) (fun x _=> .ok) fun e=> .er) ?_);cases hk:J5 c.codes x.Name with
 |none=>
  refine .nk (.sk fun b _=> .cd (.sk fun f _=> .sk fun y _=> .cd ?_ ?_) ?_)
  all_goals(simp only[Option.isSome_none,Bool.not_false,cond_true];exact Kn.bx (fun z _=> .none) fun e=> .er)
 |some v=>
  rw[Y4o (o:=o) hk]
  have tl:Ky o ((idx c.signs v).bind fun u6=>(Y8 c u6.ret).bind fun y4=>(X8 (fun(x12,x13,x14,x15)=>(bif decide (x12<(qQ x.Kids:Int))then(jn (fun kk2=>(idx x.Kids x12).bind fun u7=>((F2 n).Z3 ({x14 with t:=x15}) u7).bind fun y5=>exL y5 (fun y5=>bif decide (x12<(qQ u6.params:Int))then((idx u6.params x12).bind fun u8=>(P2 y5.2 u7 y5.1 u8).bind fun y6=>exC y6 (fun y6=>(W8 (qQ x13.Kids+qQ ([y6]:List Y1))).bind fun _=>kk2 ({x13 with Kids:=x13.Kids++([y6]:List Y1)}) y5.2 y5.2.t) (fun e3=>some (Lp.ret (qK (e3,y5.2)))))else(kk2 x13 y5.2 y5.2.t))) (fun(x26:Y1)(x27:Q0)(x28:Z5)=>some (Lp.go (qJ .i64 (x12+1),x26,{x27 with t:=x28},x28))))else(some (Lp.brk (x12,x13,{x14 with t:=x15},x15))):Option (Lp (Int×Y1×Q0×Z5) (Except (Z1×Q0) (Z8×Q0))))) NN ((0:Int),(⟨10,0,0,v,false,0,false,y4,[]⟩:Y1),c,c.t)).bind fun p1=>p1.thn (fun(x12,x13,x14,x15)=>bif (qQ x.Kids:Int)!=(qQ u6.params:Int)then((X0 x.Pos 5).bind fun y7=>exC y7 (fun y7=>none) (fun e5=>some (qK (e5,{x14 with t:=x15}))))else((J7 ({x14 with t:=x15}) u6.ret).bind fun y8=>some (qX ((⟨y8,x13,false⟩:Z8),{x14 with t:=x15})))) (fun r=>some r)) ((idx (xc o c).signs v).bind fun u6=>(Y8 (xc o c) u6.ret).bind fun y4=>(X8 (fun(x12,x13,x14,x15)=>(bif decide (x12<(qQ x.Kids:Int))then(jn (fun kk2=>(idx x.Kids x12).bind fun u7=>((F2 n).Z3 ({x14 with t:=x15}) u7).bind fun y5=>exL y5 (fun y5=>bif decide (x12<(qQ u6.params:Int))then((idx u6.params x12).bind fun u8=>(P2 y5.2 u7 y5.1 u8).bind fun y6=>exC y6 (fun y6=>(W8 (qQ x13.Kids+qQ ([y6]:List Y1))).bind fun _=>kk2 ({x13 with Kids:=x13.Kids++([y6]:List Y1)}) y5.2 y5.2.t) (fun e3=>some (Lp.ret (qK (e3,y5.2)))))else(kk2 x13 y5.2 y5.2.t))) (fun(x26:Y1)(x27:Q0)(x28:Z5)=>some (Lp.go (qJ .i64 (x12+1),x26,{x27 with t:=x28},x28))))else(some (Lp.brk (x12,x13,{x14 with t:=x15},x15))):Option (Lp (Int×Y1×Q0×Z5) (Except (Z1×Q0) (Z8×Q0))))) NN ((0:Int),(⟨10,0,0,v,false,0,false,y4,[]⟩:Y1),xc o c,(xc o c).t)).bind fun p1=>p1.thn (fun(x12,x13,x14,x15)=>bif (qQ x.Kids:Int)!=(qQ u6.params:Int)then((X0 x.Pos 5).bind fun y7=>exC y7 (fun y7=>none) (fun e5=>some (qK (e5,{x14 with t:=x15}))))else((J7 ({x14 with t:=x15}) u6.ret).bind fun y8=>some (qX ((⟨y8,x13,false⟩:Z8),{x14 with t:=x15})))) (fun r=>some r)):=by
   refine Ky.si (fun y hy=>Q8v hy) fun u6 _=>Ky.sk fun y4 _=>?_;refine Ky.tn (Ky.lp (fun s=>?_) NN ((0:Int),(⟨10,0,0,v,false,0,false,y4,[]⟩:Y1),c,c.t)) (fun x=>?_) (fun x=> .ok) (fun x hx=>Kn.rt hx)
   . dsimp only[jn]
     repeat'(first|exact Ky.ok|exact Ky.er|exact Kn.er|refine Ky.cd ?_ ?_|refine Ky.bx (g.value _ _) (fun x _=>?_) (fun e=>?_)|refine Ky.bs (fun x _=>?_) (fun e=>?_)|refine Ky.sk fun x _=>?_)
   . repeat'(first|exact Ky.ok|exact Ky.er|exact Ky.none|exact Kn.er|refine Ky.cd ?_ ?_|refine Ky.bs (fun x _=>?_) (fun e=>?_)|refine Ky.sk fun x _=>?_)
  refine Ky.sk fun b _=>Ky.cd (Ky.sk fun f _=>Ky.sk fun y _=>Ky.cd (.nk ?_) tl) tl
  simp only[Bool.not_false,cond_true]
  exact Kn.bx (fun z _=> .none) fun e=> .er
theorem rdY3(o:Mo):∀n,Y3 o n
 |0=>⟨(fun c x z e=>by cases e),(fun c x z e=>by cases e),(fun c x z e=>by cases e),(fun c x z e=>by cases e),(fun c x z e=>by cases e),(fun c x z e=>by cases e),(fun c x z e=>by cases e),(fun c x z e=>by cases e),(fun c x z e=>by cases e),(fun c x z e=>by cases e),(fun c x z e=>by cases e),(fun c x z e=>by cases e),(fun c k x z e=>by cases e)⟩
 |n+1=>have g:=rdY3 o n;⟨asked_k g,number_k g,unary_k g,binary_k g,lying_k g,assign_k g,cond_k g,call_k g,member_k g,step_k g,expr_k g,value_k g,both_k g⟩
end
variable{o:Mo}{c:Q0}
theorem exprK(c:Q0)(x:Y2):Ky o (U0 c x) (U0 (xc o c) x):=(rdY3 o NN).expr c x
theorem valueK(c:Q0)(x:Y2):Ky o (Z3 c x) (Z3 (xc o c) x):=(rdY3 o NN).value c x
theorem askedK(c:Q0)(x:Y2):Ky o (V5 c x) (V5 (xc o c) x):=(rdY3 o NN).asked c x
theorem Y7h(c:Q0)(x:Y2):Ky o (V2 c x) (V2 (xc o c) x):=(rdY3 o NN).number c x
theorem Y6b(c:Q0)(p:Pos)(s:List UInt8)(n:Int):Ky o (D7 c p s n) (D7 (xc o c) p s n):=by
 unfold D7;exact kyA
theorem X1x(c:Q0)(x:Y2):Ky o (C1 c x) (C1 (xc o c) x):=by
 unfold C1
 dsimp only[jn]
 exact kyA
theorem one_k(c:Q0)(k:Int)(x:Y2):Ky o (I9 c k x) (I9 (xc o c) k x):=by
 unfold I9;exact kyA
theorem Y9s(c:Q0)(s:E0):Ky o (M1 c s) (M1 (xc o c) s):=by
 unfold M1;exact kyA
theorem Y3g(c:Q0)(v:G9):Ky o (C9 c v) (C9 (xc o c) v):=by
 unfold C9;refine Ky.bx (varOf_k _) (fun a _=>Ky.bx (Y6b {a.2 with fun_:=c.fun_} _ _ _) (fun b _=>Ky.sk fun d _=>Ky.sk fun e _=>Ky.bs (fun l _=>Ky.cd .ok (Ky.cd ?_ ?_)) (fun e=> .er)) (fun e=> .er)) (fun e=> .er)
 . exact kyA
 . refine Ky.tn (Ky.lp (fun s=>?_) NN ((0:Int),([(⟨9,[],[],false,[],[],[],b.1⟩:K2)]:List K2),b.2,b.2.t)) (fun x=> .ok) (fun x=> .ok) (fun x hx=>Kn.rt hx)
   dsimp only[jn]
   exact kyA
structure Y6(o:Mo)(n:Nat):Prop where
 block:∀c x,Ky o ((Q0s n).V4 c x) ((Q0s n).V4 (xc o c) x)
 looped:∀c x,Ky o ((Q0s n).K8 c x) ((Q0s n).K8 (xc o c) x)
 around:∀c x,Ky o ((Q0s n).D5 c x) ((Q0s n).D5 (xc o c) x)
 choose:∀c x,Ky o ((Q0s n).D4 c x) ((Q0s n).D4 (xc o c) x)
 stmt:∀c x,Ky o ((Q0s n).B3 c x) ((Q0s n).B3 (xc o c) x)
 acts:∀c x,Ky o ((Q0s n).K3 c x) ((Q0s n).K3 (xc o c) x)
section
variable{n:Nat}
theorem block_k(g:Y6 o n):∀c x,Ky o (H8 (Q0s n) c x) (H8 (Q0s n) (xc o c) x):=by
 intro c x;unfold H8
 try dsimp only[jn]
 exact kyA
theorem looped_k(g:Y6 o n):∀c x,Ky o (A2 (Q0s n) c x) (A2 (Q0s n) (xc o c) x):=by
 intro c x;unfold A2
 try dsimp only[jn]
 exact kyA
theorem stmt_k(g:Y6 o n):∀c x,Ky o (N8 (Q0s n) c x) (N8 (Q0s n) (xc o c) x):=by
 intro c x;unfold N8
 try dsimp only[jn]
 exact kyA
theorem acts_k(g:Y6 o n):∀c x,Ky o (M2 (Q0s n) c x) (M2 (Q0s n) (xc o c) x):=by
 intro c x;unfold M2;refine Ky.tn (Ky.lp (fun s=>?_) NN ([],(0:Int),c,c.t)) (fun x=> .ok) (fun x=> .ok) (fun x hx=>Kn.rt hx);exact kyA
theorem around_k(g:Y6 o n):∀c x,Ky o (A6 (Q0s n) c x) (A6 (Q0s n) (xc o c) x):=by
 intro c x;unfold A6;refine Ky.tn (Ky.lp (fun s=>?_) NN ([],(0:Int),c,c.t)) (fun a=>?_) (fun x=> .ok) (fun x hx=>Kn.rt hx)
 . exact kyA
 . refine Ky.tn (Ky.lp (fun s=>?_) NN ((0:Int),(⟨3,[],[],false,[],[],[],0⟩:K2),{a.2.2.1 with t:=a.2.2.2},a.2.2.2)) (fun b=>?_) (fun x=> .ok) (fun x hx=>Kn.rt hx)
   . exact kyA
   . refine Ky.tn (Ky.lp (fun s=>?_) NN ((0:Int),b.2.1,{b.2.2.1 with t:=b.2.2.2},b.2.2.2)) (fun d=>?_) (fun x=> .ok) (fun x hx=>Kn.rt hx)
     all_goals repeat'(first|exact Ky.ok|exact Ky.er|exact Ky.none|exact Kn.er|exact Kn.none|refine Ky.cd ?_ ?_|refine Ky.bx (Y7b _ _) (fun x _=>?_) (fun e=>?_)|refine Ky.bx (told_k _ _) (fun x _=>?_) (fun e=>?_)|refine Ky.bx (Y3h _ _) (fun x _=>?_) (fun e=>?_)|refine Ky.bx (name_k _) (fun x _=>?_) (fun e=>?_)|refine Ky.bx (exprK _ _) (fun x _=>?_) (fun e=>?_)|refine Ky.bx (valueK _ _) (fun x _=>?_) (fun e=>?_)|refine Ky.bx (askedK _ _) (fun x _=>?_) (fun e=>?_)|refine Ky.bx (Y7h _ _) (fun x _=>?_) (fun e=>?_)|refine Ky.bx (g.block _ _) (fun x _=>?_) (fun e=>?_)|refine Ky.bx (g.looped _ _) (fun x _=>?_) (fun e=>?_)|refine Ky.bx (g.around _ _) (fun x _=>?_) (fun e=>?_)|refine Ky.bx (g.choose _ _) (fun x _=>?_) (fun e=>?_)|refine Ky.bx (g.stmt _ _) (fun x _=>?_) (fun e=>?_)|refine Ky.bx (g.acts _ _) (fun x _=>?_) (fun e=>?_)|refine Ky.bx (X1x _ _) (fun x _=>?_) (fun e=>?_)|refine Ky.bx (one_k _ _ _) (fun x _=>?_) (fun e=>?_)|refine Ky.bx (Y9s _ _) (fun x _=>?_) (fun e=>?_)|refine Ky.bx (Y3g _ _) (fun x _=>?_) (fun e=>?_)|refine Ky.tn (Ky.lp (fun s=>?_) NN _) (fun x=>?_) (fun x=> .ok) (fun x hx=>Kn.rt hx)|refine Ky.bs (fun x _=>?_) (fun e=>?_)|refine Ky.sk fun x _=>?_)
theorem choose_k(g:Y6 o n):∀c x,Ky o (A3 (Q0s n) c x) (A3 (Q0s n) (xc o c) x):=by
 intro c x;unfold A3;refine Ky.sk fun u1 _=>Ky.bx (Y7h _ _) (fun a _=>Ky.sk fun u2 _=>?_) (fun e=> .er);refine Ky.tn (Ky.lp (fun s=>?_) NN ((some ([]:List (Int×Bool))),false,(0:Int),(⟨4,([a.1]:List Y1),[],false,[],[],[],0⟩:K2),{a.2 with fun_:=(O3.some ({u2 with breaks:=qJ .i64 (u2.breaks+1)}))},a.2.t)) (fun b=>?_) (fun x=> .ok) (fun x hx=>Kn.rt hx)
 . dsimp only[jn]
   exact kyA
 . exact kyA
theorem rdY6(o:Mo):∀n,Y6 o n
 |0=>⟨(fun c x z e=>by cases e),(fun c x z e=>by cases e),(fun c x z e=>by cases e),(fun c x z e=>by cases e),(fun c x z e=>by cases e),(fun c x z e=>by cases e)⟩
 |n+1=>have g:=rdY6 o n;⟨block_k g,looped_k g,around_k g,choose_k g,stmt_k g,acts_k g⟩
end
theorem actsK(c:Q0)(x:List E0):Ky o (K3 c x) (K3 (xc o c) x):=(rdY6 o NN).acts c x
variable{o:Mo}{c:Q0}
theorem Y8k{A:Type}{l r:List A}{i:Int}{x v:A}(h:idx l i=some x):qP (l++r) (qF i) v=qP l (qF i) v++r:=by
 obtain⟨h0,h1,_⟩:=S8 h;exact List.set_append_left _ _ (by omega)
theorem body_k(c:Q0)(i:Int)(f:I1):Ky o (B8 c i f) (B8 (xc o c) i f):=by
 unfold B8;refine Ky.si (fun y hy=>Q8v hy) fun u1 _=>?_;refine Ky.tn (Ky.lp (fun s=>?_) NN (c.t.list,(0:Int),{c with fun_:=(O3.some (⟨u1.ret,[],[],([(some [])]:List (Option (List ((List UInt8)×Int)))),0,0⟩:G0))})) (fun a=>?_) (fun x=> .ok) (fun x hx=>Kn.rt hx)
 . refine Ky.cd (Ky.sk fun u2 _=>Ky.si (fun y hy=>Q8v hy) fun u3 _=>Ky.sk fun u4 _=>Ky.bx (Y6b {s.2.2 with t:=(⟨s.1⟩:Z5)} _ _ _) (fun x _=> .ok) fun e=> .er) .ok
 . refine Ky.bx (actsK {a.2.2 with t:=(⟨a.1⟩:Z5)} _) (fun b _=>Ky.sk fun u6 _=>Ky.si (fun y hy=>Q8v hy) fun u7 h7=>Ky.si (fun y hy=>Q8v hy) fun u8 h8=>?_) fun e=> .er;rw[show(Xk.ex o b).2.u.Codes=b.2.u.Codes++[o.zc]from rfl,show(Xk.ex o b).1=b.1 from rfl,Y8k h8];refine Ky.si (fun y hy=>Q8v hy) fun u9 h9=>Ky.si (fun y hy=>Q8v hy) fun u10 h10=>?_;rw[Y8k h10];exact .ok
theorem main_k(c:Q0)(l l':List I1):Ky o (N0 c l) (N0 (xc o c) l'):=by
 unfold N0;cases hk:J5 c.codes ([109,97,105,110]:List UInt8)with
 |none=>
  refine .nk ?_
  simp only[Option.isSome_none,Bool.not_false,cond_true]
  exact Kn.bx (fun z _=> .none) fun e=> .er
 |some v=>
  rw[Y4o (o:=o) hk];refine Ky.cd (.nk (Kn.bx (fun z _=> .none) fun e=> .er)) ?_;refine Ky.si (fun y hy=>Q8v hy) fun u2 _=>Ky.cd (.nk (.sk fun u6 _=>Kn.bx (fun z _=> .none) fun e=> .er)) (Ky.si (fun y hy=>Q8v hy) fun u3 _=>Ky.cd (.nk (.sk fun u6 _=>Kn.bx (fun z _=> .none) fun e=> .er)) .ok)
theorem Z4o{S R:Type}{b:S->Option (Lp S R)}(I J:S->Prop)(K:R->Prop)(hb:∀s o,I s->b s=some o->match o with| .go s'=>I s'| .brk s'=>J s'| .ret r=>K r):∀n s o,I s->X8 b n s=some o->match o with| .go s'=>False| .brk s'=>J s'| .ret r=>K r:=by
 intro n
 induction n with
 |zero=>intro s o _ e;cases e
 |succ n ih=>
  intro s o hs e;unfold X8 at e;cases hy:b s with
  |none=>rw[hy]at e;cases e
  |some p=>
   rw[hy]at e;have h:=hb s p hs hy;cases p with
   |go s1=>exact ih s1 o h e
   |brk s1=>cases e;exact h
   |ret x=>cases e;exact h
structure Tz2(c c':Q0):Prop where
 eq:c'={c with t:=c'.t}
 gr:Gr c.t c'.t
theorem Tz2.refl(c:Q0):Tz2 c c:=⟨rfl,Gr.refl _⟩
theorem Tz2.trans{a b c:Q0}(h:Tz2 a b)(g:Tz2 b c):Tz2 a c:=⟨by rw[g.eq,h.eq],h.gr.trans g.gr⟩
theorem Y1d{A:Type}{l:List A}{i:Int}{x:A}(h:idx l i=some x):x∈l:=by
 obtain⟨_,_,e⟩:=S8 h;exact jW e
structure Hz(c:Q0)(f:I1)(c':Q0):Prop where
 gl:c'.globals=c.globals
 g0:J5 c.globals f.Name=none
 c0:J5 c.codes f.Name=none
 co:∃m,c.codes=some m/\c'.codes=some (Q4l m f.Name (Q9t c.codes:Int))
 si:∃s,c'.signs=c.signs++[s]/\(s.ret≠0->∃t,V1 t s.ret=some true/\Gr t c'.t)
 gr:Gr c.t c'.t
theorem named_z{c c':Q0}{p:Pos}{s:List UInt8}(e:F7 c p s=some (.ok c')):J5 c.globals s=none/\J5 c.codes s=none/\∃m,c.codes=some m/\c'={c with codes:=some (Q4l m s (Q9t c.codes:Int))}:=by
 unfold F7 at e;cases h1:(J5 c.globals s).isSome||(J5 c.codes s).isSome with
 |true=>
  rw[h1,cond_true]at e;obtain⟨y,_,e⟩:=ok1 (fun e h=>by cases h) e;cases e
 |false=>
  rw[h1,cond_false]at e
  simp only[Bool.or_eq_false_iff,Option.isSome_eq_false_iff,Option.isNone_iff_eq_none]at h1
  cases h2:((Q9t c.codes:Int)==200)with
  |true=>
   rw[h2,cond_true]at e;obtain⟨y,_,e⟩:=ok1 (fun e h=>by cases h) e;cases e
  |false=>
   rw[h2,cond_false]at e;cases hc:c.codes with
   |none=>rw[hc]at e;cases e
   |some m=>
    rw[hc,qV]at e;cases e;exact⟨h1.1,by rw[<-hc];exact h1.2,m,rfl,rfl⟩
theorem Og.val{E A:Type}{y:Option (Except E A)}{q:E->Prop}{p:A->Prop}(h:Og q y p){x:A}(e:y=some (.ok x)):p x:=by
 obtain⟨z,hz,h⟩:=h;rw[e]at hz;cases hz;exact h
theorem Tg.z{c c':Q0}(h:Tg c c'):Tz2 c c':=⟨h.eq,h.gr⟩
theorem header_z{c c':Q0}{f:I1}(hc:Ck c)(hf:OkH f)(e:P1 c f=some (.ok c')):Hz c f c':=by
 unfold P1 at e;obtain⟨y1,h1,e⟩:=ok1 (fun e h=>by cases h) e;have t1:Tg c y1.2:=(Z4i hc.tab hf.pos hf.r).val h1;have hc1:Ck y1.2:=hc.tg t1
 have cont:((F7 y1.2 f.Pos f.Name).bind fun y4=>exE y4 (fun y4=>bif decide (6<(qQ f.Params:Int))then((X0 f.Pos 2).bind fun y5=>exC y5 (fun y5=>none) (fun e2=>some (qK (e2,y4))))else((X8 (fun(x10,x11,x12,x13)=>(bif decide (x10<(qQ f.Params:Int))then((idx f.Params x10).bind fun u3=>(K7 ({x12 with t:=x13}) u3.Pos u3.Type_).bind fun y6=>exL y6 (fun y6=>(V1 y6.2.t y6.1).bind fun y7=>bif !y7 then((X0 u3.Pos 5).bind fun y8=>exC y8 (fun y8=>none) (fun e3=>some (Lp.ret (qK (e3,y6.2)))))else((W8 (qQ x11.params+qQ ([y6.1]:List Int))).bind fun _=>some (Lp.go (qJ .i64 (x10+1),(⟨x11.ret,x11.params++([y6.1]:List Int)⟩:G8),y6.2,y6.2.t)))))else(some (Lp.brk (x10,x11,{x12 with t:=x13},x13))):Option (Lp (Int×G8×Q0×Z5) (Except (Z1×Q0) (Q0))))) NN ((0:Int),(⟨y1.1,[]⟩:G8),y4,y4.t)).bind fun p2=>p2.thn (fun(x10,x11,x12,x13)=>(W8 (qQ x12.signs+qQ ([x11]:List G8))).bind fun _=>(W8 (qQ x12.u.Codes+qQ ([(⟨f.Name,y1.1==0,(qQ f.Params:Int),[],[]⟩:Q1m)]:List Q1m))).bind fun _=>some (qX ({x12 with t:=x13,u:={x12.u with Codes:=x12.u.Codes++([(⟨f.Name,y1.1==0,(qQ f.Params:Int),[],[]⟩:Q1m)]:List Q1m)},signs:=x12.signs++([x11]:List G8)}))) (fun r=>some r))))=some (.ok c')->(∃ps,c'.signs=c.signs++[⟨y1.1,ps⟩])/\c'.globals=c.globals/\J5 c.globals f.Name=none/\J5 c.codes f.Name=none/\(∃m,c.codes=some m/\c'.codes=some (Q4l m f.Name (Q9t c.codes:Int)))/\Gr y1.2.t c'.t:=by
  intro e;obtain⟨y4,h4,e⟩:=ok1 (fun e h=>by cases h) e;obtain⟨n1,n2,m,n3,n4⟩:=named_z h4;cases h6:decide (6<(qQ f.Params:Int))with
  |true=>
   rw[h6,cond_true]at e;obtain⟨y,_,e⟩:=ok1 (fun e h=>by cases h) e;cases e
  |false=>
   rw[h6,cond_false]at e;obtain⟨o,ho,e⟩:=Z9 e;have ht4:Tab y4.t:=by rw[n4];exact hc1.tab
   have inv:=Z4o (fun s:Int×G8×Q0×Z5=>s.2.1.ret=y1.1/\Tz2 y4 {s.2.2.1 with t:=s.2.2.2}/\Tab s.2.2.2) (fun s:Int×G8×Q0×Z5=>s.2.1.ret=y1.1/\Tz2 y4 {s.2.2.1 with t:=s.2.2.2}) (fun r:Except (Z1×Q0) Q0=>∃x,r= .error x) ?_ NN _ o ⟨rfl,Tz2.refl y4,ht4⟩ ho
   . cases o with
     |go s=>exact inv.elim
     |ret r=>obtain⟨x,rfl⟩:=inv;cases e
     |brk s=>
      obtain⟨x10,x11,x12,x13⟩:=s;obtain⟨i1,i2⟩:=inv
      dsimp only at i1 i2
      dsimp only[Lp.thn]at e
      obtain⟨r1,_,e⟩:=Z9 e;obtain⟨r2,_,e⟩:=Z9 e;cases e;have hy:=i2.eq
      dsimp only at hy
      have hs:x12.signs=y4.signs:=by have:=congrArg Q0.signs hy;exact this
      have hg:x12.globals=y4.globals:=by have:=congrArg Q0.globals hy;exact this
      have hd:x12.codes=y4.codes:=by have:=congrArg Q0.codes hy;exact this
      have te:=t1.eq;have q1:y1.2.signs=c.signs:=by have:=congrArg Q0.signs te;exact this
      have q2:y1.2.globals=c.globals:=by have:=congrArg Q0.globals te;exact this
      have q3:y1.2.codes=c.codes:=by have:=congrArg Q0.codes te;exact this
      have i3:=i2.gr;subst n4
      dsimp only at hs hg hd i3
      refine⟨⟨x11.params,?_⟩,?_,?_,?_,⟨m,?_,?_⟩,?_⟩
      . dsimp only
        rw[hs,q1,<-i1]
      . dsimp only;rw[hg];exact q2
      . rw[<-q2];exact n1
      . rw[<-q3];exact n2
      . rw[<-q3];exact n3
      . dsimp only;rw[hd,q3]
      . exact i3
   . rintro⟨x10,x11,x12,x13⟩ o ⟨j1,j2,j3⟩ hb
     dsimp only at j1 j2 j3 hb
     cases hlt:decide (x10<(qQ f.Params:Int))with
     |false=>rw[hlt,cond_false]at hb;cases hb;exact⟨j1,j2⟩
     |true=>
      rw[hlt,cond_true]at hb;obtain⟨u3,hu,hb⟩:=Z9 hb;cases hb6:K7 {x12 with t:=x13} u3.Pos u3.Type_ with
      |none=>rw[hb6]at hb;cases hb
      |some y6=>
       rw[hb6,qV]at hb;cases y6 with
       |error x=>cases hb;exact⟨_,rfl⟩
       |ok y6=>
        have ov:=hf.p u3 (Y1d hu);have t6:Tg {x12 with t:=x13} y6.2:=(Z4i j3 ov.pos ov.ty).val hb6;obtain⟨y7,h7,hb⟩:=Z9 hb;cases y7 with
        |false=>
         rw[Bool.not_false,cond_true]at hb;cases hf5:X0 u3.Pos 5 with
         |none=>rw[hf5]at hb;cases hb
         |some z=>
          rw[hf5,qV]at hb;cases z with
          |error x=>cases hb;exact⟨_,rfl⟩
          |ok x=>cases hb
        |true=>
         rw[Bool.not_true,cond_false]at hb;obtain⟨_,_,hb⟩:=Z9 hb;cases hb;refine⟨j1,?_,t6.tab⟩;have:=j2.trans t6.z;exact this
 cases hr:y1.1 !=0 with
 |false=>
  rw[hr,cond_false]at e;obtain⟨⟨ps,c1⟩,c2,c3,c4,c5,c6⟩:=cont e;exact⟨c2,c3,c4,c5,⟨_,c1,fun h=>absurd (by simpa using hr) h⟩,t1.gr.trans c6⟩
 |true=>
  rw[hr,cond_true]at e;obtain⟨y2,h2,e⟩:=Z9 e;cases y2 with
  |false=>
   rw[Bool.not_false,cond_true]at e;obtain⟨y,_,e⟩:=ok1 (fun e h=>by cases h) e;cases e
  |true=>
   rw[Bool.not_true,cond_false]at e;obtain⟨⟨ps,c1⟩,c2,c3,c4,c5,c6⟩:=cont e;exact⟨c2,c3,c4,c5,⟨_,c1,fun _=>⟨_,h2,c6⟩⟩,t1.gr.trans c6⟩
theorem Y1r{t:Z5}{n:Int}(h:V1 t n=some true):∃e,idx t.list n=some e/\(e.Type_.Kind=1\/e.Type_.Kind=2\/e.Type_.Kind=3):=by
 unfold V1 M7 at h;rw[qV]at h;cases hb:(decide (0<=n)&&decide (n<(qQ t.list:Int)))with
 |false=>rw[hb]at h;cases h
 |true=>
  rw[hb,Bool.not_true,cond_false]at h;obtain⟨e,he,h⟩:=Z9 h
  injection h with h
  refine⟨e,he,?_⟩
  simp only[Bool.or_eq_true,beq_iff_eq]at h
  rcases h with(h|h)|h
  . exact .inl h
  . exact .inr (.inl h)
  . exact .inr (.inr h)
theorem has_in{t:Z5}{n:Int}{e:U8}(h:idx t.list n=some e):M7 t n=some true:=by
 obtain⟨h0,h1,_⟩:=S8 h;unfold M7;rw[dt h0,dt h1]
 rfl
theorem X2f{t:Z5}{n:Int}{e:U8}(h:idx t.list n=some e)(hk:e.Type_.Kind=1\/e.Type_.Kind=2\/e.Type_.Kind=3):V1 t n=some true:=by
 unfold V1;rw[has_in h,qV,Bool.not_true,cond_false,h,qV]
 rcases hk with h|h|h<;>rw[h]<;>rfl
theorem Y1s{t t':Z5}(g:Gr t t'){n:Int}(h:V1 t n=some true):V1 t' n=some true:=by
 obtain⟨e,h1,h2⟩:=Y1r h;exact X2f (g.idx h1) h2
theorem X2m{m:List (List UInt8×Int)}{k:List UInt8}{v:Int}(h:Q4x m k=none):Q4l m k v=m++[(k,v)]:=by
 induction m with
 |nil=>rfl
 |cons p m ih=>
  unfold Q4x at h
  split at h
  . cases h
  . rename_i hn
    rw[Q4l,if_neg hn,ih h];rfl
theorem Y3i(c:Q0)(p:Pos):K7 c p ⟨[105,110,116],[],0⟩=some (.ok (1,c)):=by kernel_rfl
theorem named_fz{c:Q0}{p:Pos}{m:List (List UInt8×Int)}(hg:J5 c.globals Q7d=none)(hc:c.codes=some m)(hm:Q4x m Q7d=none)(hl:m.length<200):F7 c p Q7d=some (.ok {c with codes:=some (m++[(Q7d,(m.length:Int))])}):=by
 unfold F7;have e1:J5 c.codes Q7d=none:=by rw[hc];exact hm
 have e2:Q9t c.codes=m.length:=by rw[hc];rfl
 rw[hg,e1,e2,hc];have e3:((m.length:Int)==200)=false:=beq_eq_false_iff_ne.2 (by omega);rw[e3,qV,X2m hm]
 rfl
theorem NN2:∃j,NN=j+1+1:=⟨NN-2,by unfold NN;omega⟩
def mo(k:Int):Mo:=⟨⟨Q7d,false,1,[],[]⟩,⟨1,[1]⟩,k⟩
theorem X2q{c:Q0}{m:List (List UInt8×Int)}(hs:V1 c.t 1=some true)(hg:J5 c.globals Q7d=none)(hc:c.codes=some m)(hm:Q4x m Q7d=none)(hl:m.length<200)(h1:c.signs.length<=1000)(h2:c.u.Codes.length<=1000)(a b d e f:Pos):P1 c (fz a b d e f)=some (.ok (xc (mo m.length) c)):=by
 unfold P1;rw[show(fz a b d e f).Ret=⟨[105,110,116],[],0⟩from rfl,Y3i,qV]
 dsimp only[exL,exE,exC]
 rw[show((1:Int)!=0)=true from rfl,cond_true,hs,qV,Bool.not_true,cond_false,show(fz a b d e f).Name=Q7d from rfl,named_fz hg hc hm hl,qV]
 dsimp only[exL,exE,exC]
 rw[show decide ((6:Int)<(qQ (fz a b d e f).Params:Int))=false from rfl,cond_false];obtain⟨j,hj⟩:=NN2;rw[hj,Z5n (s':=((1:Int),(⟨1,[1]⟩:G8),{c with codes:=some (m++[(Q7d,(m.length:Int))])},c.t)),Z7y (s':=((1:Int),(⟨1,[1]⟩:G8),{c with codes:=some (m++[(Q7d,(m.length:Int))])},c.t))]
 . rw[qV]
   dsimp only[Lp.thn]
   rw[E1 (by simp;omega),qV,E1 (by simp;omega),qV];unfold xc;rw[hc]
   rfl
 . rfl
 . dsimp only
   rw[show decide ((0:Int)<(qQ (fz a b d e f).Params:Int))=true from rfl,cond_true];rw[show idx (fz a b d e f).Params 0=some ⟨b,⟨[105,110,116],[],0⟩,[97],[],[],false⟩from rfl,qV]
   dsimp only
   rw[Y3i,qV]
   dsimp only[exL,exE,exC]
   rw[hs,qV,Bool.not_true,cond_false,E1 (by simp),qV]
   rfl
def zzE(d:Pos):Y2:=⟨2,d,[],[97],0,⟨[],[],0⟩,[]⟩
def zzS(c d:Pos):E0:=⟨8,c,[zzE d],[],[],[],[],[],[]⟩
def zzF(g:Q5u):G0:=⟨1,[g],[1],[some [([97],0)]],0,0⟩
def zzV:Z8:=⟨1,⟨2,0,0,0,false,0,false,true,[]⟩,true⟩
variable{c:Q0}{g:Q5u}
theorem name_zz(hf:c.fun_= .some (zzF g))(d:Pos):O4 c (zzE d)=some (.ok (zzV,c)):=by
 obtain⟨t,u,gl,co,gt,si,fu⟩:=c;cases hf
 kernel_rfl
theorem X1d(ht:Tab c.t)(hs:V1 c.t 1=some true):∃x,M5 c.t 1=some (x,0)/\(x.Kind=1\/x.Kind=2\/x.Kind=3):=by
 obtain⟨e,h1,h2⟩:=Y1r hs;refine⟨e.Type_,?_,h2⟩;rw[Z2n ht];unfold tyT;rw[h1]
theorem told_zz(ht:Tab c.t)(hs:V1 c.t 1=some true)(p:Pos):∃w,P9 c p zzV=some (.ok (⟨1,w,false⟩,c)):=by
 obtain⟨x,h1,h2⟩:=X1d ht hs;unfold P9
 dsimp only[jn]
 rw[show zzV.lies=true from rfl,Bool.not_true,cond_false,show zzV.n=1 from rfl,h1,qV,Q2v,qV];rw[show(x.Kind==4)=false by rcases h2 with h|h|h<;>rw[h]<;>rfl]
 dsimp only[cond_false]
 rw[hs,qV,Bool.not_true,cond_false,show((1:Int)==2)=false from rfl,cond_false];unfold Y8;rw[h1];exact⟨_,rfl⟩
theorem value_zz(ht:Tab c.t)(hs:V1 c.t 1=some true)(hf:c.fun_= .some (zzF g))(d:Pos):∃w,Z3 c (zzE d)=some (.ok (⟨1,w,false⟩,c)):=by
 obtain⟨j,hj⟩:=NN2;have e1:Z3 c (zzE d)=P7 (F2 (j+1)) c (zzE d):=by unfold Z3;rw[hj];rfl
 have e2:(F2 (j+1)).U0 c (zzE d)=some (.ok (zzV,c)):=by
  show N9 (F2 j) c (zzE d)=_;unfold N9;rw[show((zzE d).Kind==1)=false from rfl,cond_false,show((zzE d).Kind==2)=true from rfl,cond_true,name_zz hf]
  rfl
 obtain⟨w,hw⟩:=told_zz ht hs d;refine⟨w,?_⟩;rw[e1];unfold P7;rw[e2,qV]
 dsimp only[exL,exE,exC]
 rw[show(zzE d).Pos=d from rfl,hw,qV]
theorem X2r(ht:Tab c.t)(hs:V1 c.t 1=some true)(d:Pos)(w:Y1):P2 c (zzE d) ⟨1,w,false⟩ 1=some (.ok w):=by
 obtain⟨x,h1,h2⟩:=X1d ht hs;have hp:Y8 c 1=some (x.Kind==3):=by unfold Y8;rw[h1];rfl
 have hw:D3 c (zzE d) ⟨1,w,false⟩ 1=some (.ok w):=by
  unfold D3;rw[hp];cases x.Kind==3<;>rfl
 unfold P2;rw[hw]
 rfl
theorem acts_zz(ht:Tab c.t)(hs:V1 c.t 1=some true)(hf:c.fun_= .some (zzF g))(p d:Pos):∃l,K3 c [zzS p d]=some (.ok (l,c)):=by
 obtain⟨w,hv⟩:=value_zz ht hs hf d
 have ha:M1 c (zzS p d)=some (.ok (⟨5,[w],[],false,[],[],[],0⟩,c)):=by
  unfold M1;rw[show((qQ (zzS p d).A:Int)==0)=false from rfl,cond_false,show idx (zzS p d).A 0=some (zzE d)from rfl,qV,hv,qV]
  dsimp only[exL,exE,exC]
  rw[hf,show O3.get (O3.some (zzF g))=some (zzF g)from rfl,qV,show((zzF g).ret==0)=false from rfl,cond_false,show(zzF g).ret=1 from rfl];rw[show({c with fun_:=O3.some (zzF g)}:Q0)=c by rw[<-hf],X2r ht hs]
  rfl
 obtain⟨j,hj⟩:=NN2
 have hst:(Q0s (j+1)).B3 c (zzS p d)=some (.ok ([⟨5,[w],[],false,[],[],[],0⟩],c)):=by
  show N8 (Q0s j) c (zzS p d)=_;unfold N8;rw[show(zzS p d).Kind=8 from rfl,show((8:Int)==1)=false from rfl,show((8:Int)==2)=false from rfl,show((8:Int)==3)=false from rfl,show((8:Int)==4)=false from rfl,show((8:Int)==5)=false from rfl,show((8:Int)==6)=false from rfl,show((8:Int)==7)=false from rfl,show((8:Int)==8)=true from rfl]
  simp only[cond_false,cond_true]
  rw[ha]
  rfl
 have e1:K3 c [zzS p d]=M2 (Q0s (j+1)) c [zzS p d]:=by unfold K3;rw[hj];rfl
 rw[e1];unfold M2;rw[hj,Z5n (s':=([⟨5,[w],[],false,[],[],[],0⟩],(1:Int),c,c.t)),Z7y (s':=([⟨5,[w],[],false,[],[],[],0⟩],(1:Int),c,c.t))]
 . exact⟨_,rfl⟩
 . rfl
 . dsimp only
   rw[show decide ((0:Int)<(qQ [zzS p d]:Int))=true from rfl,cond_true,show idx [zzS p d] 0=some (zzS p d)from rfl,qV];rw[hst,qV]
   dsimp only[exL,exE,exC]
   rw[E1 (by simp),qV]
   rfl
theorem slot_zz(c:Q0)(hs:V1 c.t 1=some true)(s:List UInt8):∃g,W0 c s 1=some g:=by
 unfold W0 W2;obtain⟨e,h1,h2⟩:=Y1r hs
 have ha:W9 c.t 1=some e.align:=by
  unfold W9;rw[has_in h1,qV,Bool.not_true,cond_false,h1];rfl
 rw[Q2v,ha,hs];exact⟨_,rfl⟩
theorem X0s(hs:V1 c.t 1=some true)(hf:c.fun_= .some ⟨1,[],[],[some []],0,0⟩)(p:Pos):∃g,D7 c p [97] 1=some (.ok (0,{c with fun_:= .some (zzF g)})):=by
 obtain⟨g,hg⟩:=slot_zz {c with fun_:= .some ⟨1,[],[],[some [([97],0)]],0,0⟩} hs [97];refine⟨g,?_⟩;unfold D7;rw[hf];refine bnd (x:=⟨1,[],[],[some []],0,0⟩) rfl ?_;refine bnd (x:=some []) rfl ?_;rw[show(J5 (some ([]:List (List UInt8×Int))) [97]).isSome=false from rfl,cond_false,show((qQ ([]:List Q5u):Int)==200)=false from rfl,cond_false];refine bnd (x:=[]) rfl ?_;refine bnd (x:=g) hg ?_;rw[E1 (by simp),qV,E1 (by simp),qV]
 rfl
theorem Z4q{A:Type}(l:List A)(x:A):idx (l++[x]) (l.length:Int)=some x:=by
 rw[P6 (by simp)]
 simp
theorem Y8l{A:Type}(l:List A)(x y:A):qP (l++[x]) (qF (l.length:Int)) y=l++[y]:=by
 rw[Int.toNat_natCast,List.set_append_right _ _ (qD _),Nat.sub_self]
 rfl
theorem body_zz(ht:Tab c.t)(hs:V1 c.t 1=some true){n:Nat}{ss:List G8}{cs:List Q1m}{z:Q1m}(h1:c.signs=ss++[⟨1,[1]⟩])(h2:ss.length=n)(h3:c.u.Codes=cs++[z])(h4:cs.length=n)(a b d e f:Pos):∃l sl,B8 c (n:Int) (fz a b d e f)=some (.ok {c with u:={c.u with Codes:=cs++[{z with Body:=l,Slots:=sl}]},fun_:=O3.dead}):=by
 have hi:idx c.signs (n:Int)=some ⟨1,[1]⟩:=by rw[h1,<-h2];exact Z4q _ _
 obtain⟨g,hd⟩:=X0s (c:={c with fun_:= .some ⟨1,[],[],[some []],0,0⟩}) hs rfl b;obtain⟨l,ha⟩:=acts_zz (c:={c with fun_:= .some (zzF g)}) ht hs rfl d e;refine⟨l,[g],?_⟩;unfold B8;rw[hi,qV];obtain⟨j,hj⟩:=NN2;rw[hj,Z5n (s':=(c.t.list,(1:Int),{c with fun_:= .some (zzF g)})),Z7y (s':=(c.t.list,(1:Int),{c with fun_:= .some (zzF g)}))]
 . rw[qV]
   dsimp only[Lp.thn]
   rw[show(fz a b d e f).Body=[zzS d e]from rfl];refine bnd (x:= .ok (l,{c with fun_:= .some (zzF g)})) ha ?_
   dsimp only[exL,exE,exC]
   refine bnd (x:=zzF g) rfl ?_;have hc:idx c.u.Codes (n:Int)=some z:=by rw[h3,<-h4];exact Z4q _ _
   rw[hc,qV,qV];have hl:qP c.u.Codes (qF (n:Int)) {z with Body:=l}=cs++[{z with Body:=l}]:=by rw[h3,<-h4];exact Y8l _ _ _
   rw[hl];have hl2:idx (cs++[{z with Body:=l}]) (n:Int)=some {z with Body:=l}:=by rw[<-h4];exact Z4q _ _
   rw[hl2,qV,qV,<-h4,Y8l]
   rfl
 . rfl
 . dsimp only
   rw[show decide ((0:Int)<(qQ (fz a b d e f).Params:Int))=true from rfl,cond_true];rw[show idx (fz a b d e f).Params 0=some ⟨b,⟨[105,110,116],[],0⟩,[97],[],[],false⟩from rfl,qV,hi,qV,show idx [(1:Int)] 0=some 1 from rfl,qV]
   dsimp only
   rw[hd]
   rfl
structure Gn(c:Q0)(v:G9)(c':Q0):Prop where
 co:c'.codes=c.codes
 uc:c'.u.Codes=c.u.Codes
 gl:∃gm k,c.globals=some gm/\c'.globals=some (Q4l gm v.Name k)
theorem global_n{c:Q0}(hc:Ck c){v:G9}(hv:OkV v)(hd:v.Dims.length<=5000)(hx:∀x∈v.Init,wE x<=10000)(hl:v.Init.length<=5000)(hdl:c.u.Data.length<=100000):Og Ep (L6 c v) (Gn c v):=by
 unfold L6;refine Og.bind (Y6t hc.tab hv hd) (fun y1 a1=>?_) (fun e he=>Og.err he);rw[a1.1.back];have hc1:=hc.tg a1.1;refine Og.bind (X1m hc1 hv.pos v.Name) (fun y2 a2=>?_) (fun e he=>Og.err he);obtain⟨gm,hg,hn,hlt,rfl⟩:=a2;have hf:y1.2.fun_=c.fun_:=a1.1.fun_eq;obtain⟨s,hs⟩:=Y3l (c:={({y1.2 with globals:=some (Q4l gm v.Name (y1.2.gtypes.length:Int))}:Q0)with fun_:=c.fun_}) hc1.tab v.Name y1.1;refine Og.step hs ?_;have hug:=hc1.ug;refine Og.step (E1 (by simp;omega)) ?_;refine Og.step (E1 (by simp;omega)) ?_;have put:=hc1.gl.put hg hc1.gn hn
 have ck:Ck {({y1.2 with globals:=some (Q4l gm v.Name (y1.2.gtypes.length:Int))}:Q0)with u:={y1.2.u with Globals:=y1.2.u.Globals++[s]},gtypes:=y1.2.gtypes++[y1.1],fun_:=c.fun_}:=
  ⟨hc1.tab,by simpa using put.1,hc1.co,hc.fn,by simpa using put.2,hc1.cn,by simp;omega,hc1.uc,by simp;omega,hc1.lc⟩
 refine Og.bind (data_g ck hv hx hl a1.2) (fun y4 a4=>?_) (fun e he=>Og.err he);have he:=a4.eq;have hu:y1.2.u=c.u:=by rw[a1.1.eq]
 have hco:y1.2.codes=c.codes:=by rw[a1.1.eq]
 have hgl:y1.2.globals=c.globals:=by rw[a1.1.eq]
 refine Og.step (E1 (by rw[he];simp[hu];omega)) ?_;refine Og.ok ⟨by dsimp only;rw[he];exact hco,by dsimp only;rw[he];dsimp only;rw[hu],gm,(y1.2.gtypes.length:Int),by rw[<-hgl];exact hg,by dsimp only;rw[he]⟩
theorem Y4c{m:List (List UInt8×Int)}{k k':List UInt8}{v:Int}(hk:k≠k')(h:Q4x m k'=none):Q4x (Q4l m k v) k'=none:=by
 rw[Y4b,if_neg (fun e=>hk e.symm)];exact h
theorem loop_ext{S R S' R':Type}{b:S->Option (Lp S R)}{b':S'->Option (Lp S' R')}(e:S->S')(I:S->Prop)(μ:S->Nat)(hgo:∀s s',I s->b s=some (.go s')->I s'/\μ s'<μ s/\b' (e s)=some (.go (e s'))):∀n s s1,I s->X8 b n s=some (.brk s1)->∃k s0,k<=μ s/\I s0/\b s0=some (.brk s1)/\∀j,X8 b' (k+j) (e s)=X8 b' j (e s0):=by
 intro n
 induction n with
 |zero=>intro s s1 _ h;cases h
 |succ n ih=>
  intro s s1 hs h;unfold X8 at h;cases hb:b s with
  |none=>rw[hb]at h;cases h
  |some p=>
   rw[hb]at h;cases p with
   |ret r=>cases h
   |brk s2=>cases h;exact⟨0,s,Nat.zero_le _,hs,hb,fun j=>by rw[Nat.zero_add]⟩
   |go s2=>
    obtain⟨h1,h2,h3⟩:=hgo s s2 hs hb;obtain⟨k,s0,g1,g2,g3,g4⟩:=ih s2 s1 h1 h;refine⟨k+1,s0,by omega,g2,g3,fun j=>?_⟩;rw[show k+1+j=(k+j)+1 by omega,Z5n h3];exact g4 j
theorem loop_one{S R S' R':Type}{b:S->Option (Lp S R)}{b':S'->Option (Lp S' R')}(e:S->S')(I:S->Prop)(μ:S->Nat)(hgo:∀s s',I s->b s=some (.go s')->I s'/\μ s'<μ s/\b' (e s)=some (.go (e s'))){s s1:S}(hs:I s)(hm:μ s<=1000000)(h:X8 b NN s=some (.brk s1))(P:S'->Prop)(hl:∀s0,I s0->b s0=some (.brk s1)->∃s2 s3,b' (e s0)=some (.go s2)/\b' s2=some (.brk s3)/\P s3):∃s3,X8 b' NN (e s)=some (.brk s3)/\P s3:=by
 obtain⟨k,s0,g1,g2,g3,g4⟩:=loop_ext e I μ hgo NN s s1 hs h;obtain⟨s2,s3,h2,h3,h4⟩:=hl s0 g2 g3;obtain⟨j,hj⟩:∃j,NN=k+(j+1+1):=⟨NN-k-2,by unfold NN;omega⟩;refine⟨s3,?_,h4⟩;rw[hj,g4,Z5n h2];exact Z7y h3
theorem main_ret{c c':Q0}{l:List I1}(e:N0 c l=some (.ok c')):(∃s∈c.signs,s.ret=1)/\∃k,c'={c with u:={c.u with Main:=k}}:=by
 unfold N0 at e;cases hk:J5 c.codes ([109,97,105,110]:List UInt8)with
 |none=>
  rw[hk,Option.isSome_none,Bool.not_false,cond_true]at e;obtain⟨y,_,e⟩:=ok1 (fun e h=>by cases h) e;cases e
 |some v=>
  rw[hk,Option.isSome_some,Bool.not_true,cond_false]at e;obtain⟨u2,h2,e⟩:=Z9 e;cases hp:decide (0<(qQ u2.params:Int))with
  |true=>
   rw[hp,cond_true]at e;obtain⟨u6,_,e⟩:=Z9 e;obtain⟨y,_,e⟩:=ok1 (fun e h=>by cases h) e;cases e
  |false=>
   rw[hp,cond_false]at e;obtain⟨u3,h3,e⟩:=Z9 e;cases hr:u3.ret !=1 with
   |true=>
    rw[hr,cond_true]at e;obtain⟨u6,_,e⟩:=Z9 e;obtain⟨y,_,e⟩:=ok1 (fun e h=>by cases h) e;cases e
   |false=>
    rw[hr,cond_false]at e;cases e;exact⟨⟨u3,Y1d h3,by simpa using hr⟩,_,rfl⟩
def Nn(p:K1):Prop:=(∀v∈p.Globals,v.Name≠Q7d)/\(∀f∈p.Funcs,f.Name≠Q7d)
structure C0(c:Q0):Prop where
 ck:Ck c
 f:c.fun_=O3.nil
 s:c.signs=[]
 d:c.u.Data=[]
 g:c.globals=some []
 o:c.codes=some []
def Sf(l:List I1)(c:Q0):Prop:=∀(j:Nat)(a:G8)(f:I1),c.signs[j]?=some a->l[j]?=some f->a.params.length=f.Params.length
structure Bh(l:List I1)(s:Int×Q0×Z5):Prop where
 i0:0<=s.1
 i1:s.1<=l.length
 ck:Ck {s.2.1 with t:=s.2.2}
 f:s.2.1.fun_=O3.nil
 sl:(s.2.1.signs.length:Int)=s.1
 g:J5 s.2.1.globals Q7d=none
 o:J5 s.2.1.codes Q7d=none
 sc:∀x∈s.2.1.signs,x.ret≠0->V1 s.2.2 x.ret=some true
 sf:Sf l s.2.1
structure Bb(l:List I1)(s:Int×Q0×Z5):Prop where
 i0:0<=s.1
 i1:s.1<=l.length
 cn:Cn {s.2.1 with t:=s.2.2}
 sl:s.2.1.signs.length=l.length
 sc:V1 s.2.2 1=some true
 sf:Sf l s.2.1
theorem Y8v{A:Type}{l:List A}{x:A}{i:Int}(h0:0<=i)(h:i<l.length):idx (l++[x]) i=idx l i:=by
 obtain⟨y,hy,_⟩:=O2 ⟨h0,h⟩;rw[hy,Q8v hy]
def bH(l:List I1):Int×Q0×Z5->Option (Lp (Int×Q0×Z5) (Except (Z1×Q0) (Q0))):=fun(x22,x23,x24)=>(bif decide (x22<(qQ l:Int))then((idx l x22).bind fun u3=>(P1 ({x23 with t:=x24}) u3).bind fun y3=>exC y3 (fun y3=>some (Lp.go (qJ .i64 (x22+1),{y3 with fun_:=x23.fun_},y3.t))) (fun e2=>some (Lp.ret (qK (e2.1,{e2.2 with fun_:=x23.fun_})))))else(some (Lp.brk (x22,{x23 with t:=x24},x24))))
def bB(l:List I1):Int×Q0×Z5->Option (Lp (Int×Q0×Z5) (Except (Z1×Q0) (Q0))):=fun(x34,x35,x36)=>(bif decide (x34<(qQ l:Int))then((idx l x34).bind fun u5=>(B8 ({x35 with t:=x36}) x34 u5).bind fun y5=>exL y5 (fun y5=>some (Lp.go (qJ .i64 (x34+1),y5,y5.t))))else(some (Lp.brk (x34,{x35 with t:=x36},x36))))
theorem X0q{l:List I1}(hl:l.length<=5000)(hf:∀f∈l,OkH f/\f.Name≠Q7d):∀s o,Bh l s->bH l s=some o->match o with
 | .go s'=>Bh l s'/\s.1<l.length/\s'.1=s.1+1/\∀x,bH (l++[x]) s=some (.go s')
 | .brk s'=>s.1=l.length/\s'=(s.1,{s.2.1 with t:=s.2.2},s.2.2)
 | .ret r=>∃x,r=qK x:=by
 rintro⟨x22,x23,x24⟩ o ⟨j1,j2,j3,j4,j5,j6,j7,j8,j9⟩ h
 dsimp only at j1 j2 j3 j4 j5 j6 j7 j8 j9
 unfold bH at h
 dsimp only at h
 by_cases hlt:x22<(l.length:Int)
 . rw[dt hlt,cond_true]at h;obtain⟨u3,hu,h⟩:=Z9 h;have hm:=Y1d hu;obtain⟨hh,hne⟩:=hf u3 hm;cases hb:P1 {x23 with t:=x24} u3 with
   |none=>rw[hb]at h;cases h
   |some y=>
    rw[hb,qV]at h;cases y with
    |error x=>cases h;exact⟨_,rfl⟩
    |ok y=>
     cases h;have a:=(Y8x j3 hh).val hb;have z:=header_z j3 hh hb;obtain⟨sg,sg1,sg2⟩:=a.s
     dsimp only at sg1
     have fn:=a.f
     dsimp only at fn
     obtain⟨m,m1,m2⟩:=z.co
     dsimp only at m1
     have n0:=z.c0
     dsimp only at n0
     rw[m1]at n0;have hw:qJ .i64 (x22+1)=x22+1:=w64 (by omega);refine⟨⟨by dsimp only;omega,by dsimp only;omega,?_,j4,by dsimp only;rw[hw,sg1,qW];simp;omega,?_,?_,?_,?_⟩,hlt,hw,?_⟩
     . dsimp only
       rw[<-fn];exact a.ck
     . dsimp only
       rw[z.gl];exact j6
     . dsimp only
       rw[m2];rw[m1]at j7;exact Y4c hne j7
     . intro q hq hr
       dsimp only at hq⊢
       obtain⟨s,t1,t2⟩:=z.si
       dsimp only at t1
       rw[t1]at hq
       rcases jQ.1 hq with hq|hq
       . exact Y1s z.gr (j8 q hq hr)
       . rw[kQ.1 hq]at hr⊢;obtain⟨t,t3,t4⟩:=t2 hr;exact Y1s t4 t3
     . intro j b f h1 h2
       dsimp only at h1
       rw[sg1]at h1
       by_cases hj:j<x23.signs.length
       . rw[kR hj]at h1;exact j9 j b f h1 h2
       . have hjk:j=x23.signs.length:=by
          have:=(List.getElem?_eq_some_iff.1 h1).1;rw[qW,qG]at this;omega
         subst hjk;rw[kS (qD _),Nat.sub_self]at h1;cases h1;obtain⟨_,_,hu⟩:=S8 hu;rw[show x22.toNat=x23.signs.length by omega,h2]at hu;cases hu;exact sg2
     . intro x;unfold bH
       dsimp only
       rw[dt (show x22<((l++[x]).length:Int) by rw[qW];simp;omega),cond_true,Y8v j1 hlt,hu,qV,hb]
       rfl
 . rw[df hlt,cond_false]at h;cases h;exact⟨by dsimp only;omega,rfl⟩
theorem Y9q{l:List I1}(hl:l.length<=5000)(hf:∀f∈l,OkF f/\wF f<=5000):∀s o,Bb l s->bB l s=some o->match o with
 | .go s'=>Bb l s'/\s.1<l.length/\s'.1=s.1+1/\∀x m,bB (l++[x]) (Xk.ex m s)=some (.go (Xk.ex m s'))
 | .brk s'=>s.1=l.length/\s'=(s.1,{s.2.1 with t:=s.2.2},s.2.2)
 | .ret r=>∃x,r=qK x:=by
 rintro⟨x34,x35,x36⟩ o ⟨j1,j2,j3,j4,j5,j6⟩ h
 dsimp only at j1 j2 j3 j4 j5 j6
 unfold bB at h
 dsimp only at h
 by_cases hlt:x34<(l.length:Int)
 . rw[dt hlt,cond_true]at h;obtain⟨u5,hu,h⟩:=Z9 h;have hm:=Y1d hu;obtain⟨hh,hw⟩:=hf u5 hm;obtain⟨k,rfl⟩:=jR j1;have hk:k<l.length:=by omega
   have hs:k<({x35 with t:=x36}:Q0).signs.length:=by dsimp only;omega
   have hsp:({x35 with t:=x36}:Q0).signs[k].params.length=u5.Params.length:=by
    refine j6 k _ _ (kM hs) ?_;obtain⟨_,_,hu⟩:=S8 hu
    rwa[Int.toNat_natCast]at hu
   cases hb:B8 {x35 with t:=x36} (k:Int) u5 with
   |none=>rw[hb]at h;cases h
   |some y=>
    rw[hb,qV]at h;cases y with
    |error x=>cases h;exact⟨_,rfl⟩
    |ok y=>
     cases h;have a:=(body_g j3 hs hh hw hsp).val hb;have hw:qJ .i64 ((k:Int)+1)=(k:Int)+1:=w64 (by omega);have as:=a.s
     dsimp only at as
     refine⟨⟨by dsimp only;omega,by dsimp only;omega,a.cn,by dsimp only;rw[as];exact j4,Y1s a.g j5,?_⟩,hlt,hw,?_⟩
     . intro j b f h1 h2
       dsimp only at h1
       rw[as]at h1;exact j6 j b f h1 h2
     . intro x m
       have hb2:B8 (xc m {x35 with t:=x36}) (k:Int) u5=some (.ok (xc m y)):=by
        rcases body_k (o:=m) _ _ _ _ hb with hh|hh
        . exact hh.elim
        . exact hh
       show bB (l++[x]) ((k:Int),xc m x35,x36)=some (.go (qJ .i64 ((k:Int)+1),xc m y,y.t));unfold bB
       dsimp only
       rw[dt (show(k:Int)<((l++[x]).length:Int) by rw[qW];simp;omega),cond_true,Y8v j1 hlt,hu,qV];exact bnd hb2 rfl
 . rw[df hlt,cond_false]at h;cases h;exact⟨by dsimp only;omega,rfl⟩
def Zz(c':Q0)(X:Option (Except (Z1×Q0) Q0)):Prop:=∃z c2,X=some (.ok c2)/\c2.u={c'.u with Codes:=c'.u.Codes++[z]}/\z.Name=Q7d
theorem Zz.bnd{c':Q0}{A:Type}{y:Option A}{f:A->Option (Except (Z1×Q0) Q0)}{x:A}(h:y=some x)(k:Zz c' (f x)):Zz c' (y.bind f):=by
 rw[h];exact k
theorem Zz.two{c':Q0}{S R S' R':Type}{b:S->Option (Lp S R)}{b':S'->Option (Lp S' R')}(e:S->S')(I:S->Prop)(μ:S->Nat){s s1:S}(h:X8 b NN s=some (.brk s1))(hgo:∀s s',I s->b s=some (.go s')->I s'/\μ s'<μ s/\b' (e s)=some (.go (e s')))(hs:I s)(hm:μ s<=1000000){f:Lp S' R'->Option (Except (Z1×Q0) Q0)}(hl:∀s0,I s0->b s0=some (.brk s1)->∃s2 s3,b' (e s0)=some (.go s2)/\b' s2=some (.brk s3)/\Zz c' (f (.brk s3))):Zz c' ((X8 b' NN (e s)).bind f):=by
 obtain⟨s3,h1,h2⟩:=loop_one e I μ hgo hs hm h (fun s3=>Zz c' (f (.brk s3))) hl;exact Zz.bnd h1 h2
theorem try_zz{p:K1}(hp:OkP p)(hw:wP p<=5000)(hn:Nn p){c c':Q0}(h0:C0 c)(e:Q0e c p=some (.ok c'))(hl:c'.u.Codes.length<100)(a b d x y:Pos):Zz c' (Q0e c {p with Funcs:=p.Funcs++[fz a b d x y]}):=by
 have hwp:wP p=sm wT p.Structs+sm wV p.Globals+sm wF p.Funcs:=rfl;have lS:=S7 Y3f p.Structs;have lG:=S7 Z2h p.Globals;have lF:=S7 Y1o p.Funcs
 have oV:∀{v:G9}{k:Nat},wV v<=k->k<=5000->v.Dims.length<=5000/\(∀x∈v.Init,wE x<=10000)/\v.Init.length<=5000:=fun{v k} h1 h2=>by
  have h3:wV v=1+v.Type_.Stars.toNat+v.Dims.length+sm wE v.Init:=rfl;have h4:=S7 Q2u v.Init;exact⟨by omega,fun x hx=>by have:=Q6a wE hx;omega,by omega⟩
 have hc:=h0.ck;unfold Q0e at e⊢;obtain⟨y1,h1,e⟩:=ok1 (fun e h=>by cases h) e
 have a1:Tt c y1:=(Y5p hc.tab (by omega) (fun s hs=>by
  have h1:=Q6a wT hs;have h2:wT s=1+sm wV s.Fields:=rfl;have h3:=hp.s s hs;have h4:=S7 Z2h s.Fields;exact⟨h3.2.2,fun v hv=>⟨h3.2.1 v hv,by have:=Q6a wV hv;have:wV v=1+v.Type_.Stars.toNat+v.Dims.length+sm wE v.Init:=rfl;omega⟩,by omega⟩)).val h1
 have e1:=a1.eq;have ck1:=hc.tt a1;have f1:y1.fun_=c.fun_:=by rw[e1]
 have s1:y1.signs=[]:=by rw[e1];exact h0.s
 have d1:y1.u.Data=[]:=by rw[e1];exact h0.d
 have g1:y1.globals=some []:=by rw[e1];exact h0.g
 have o1:y1.codes=some []:=by rw[e1];exact h0.o
 refine Zz.bnd h1 ?_
 dsimp only[exL,exE,exC]
 obtain⟨o2,h2,e⟩:=Z9 e;refine Zz.bnd h2 ?_;have inv2:=Z4o (fun s:Int×Q0×Z5=>0<=s.1/\s.1<=p.Globals.length/\Ck {s.2.1 with t:=s.2.2}/\s.2.1.fun_=O3.nil/\s.2.1.signs=[]/\(s.2.1.u.Data.length:Int)=s.1/\J5 s.2.1.globals Q7d=none/\s.2.1.codes=some []/\s.2.1.u.Codes=[]) (fun s:Int×Q0×Z5=>Ck {s.2.1 with t:=s.2.2}/\s.2.1.fun_=O3.nil/\s.2.1.signs=[]/\J5 s.2.1.globals Q7d=none/\s.2.1.codes=some []) (fun r:Except (Z1×Q0) Q0=>∃x,r= .error x) ?_ NN _ o2 ⟨qC 0,by dsimp only;omega,by dsimp only;rw[<-f1];exact ck1,h0.f,s1,by dsimp only;rw[d1];rfl,by dsimp only;rw[g1];rfl,o1,by have:=ck1.uc;rw[s1]at this;exact List.length_eq_zero_iff.1 this⟩ h2
 . cases o2 with
   |go s=>exact inv2.elim
   |ret r=>obtain⟨x,rfl⟩:=inv2;cases e
   |brk s=>
    obtain⟨x10,x11,x12⟩:=s;obtain⟨i1,i2,i3,i4,i5⟩:=inv2
    dsimp only at i1 i2 i3 i4 i5
    dsimp only[Lp.thn]at e⊢
    obtain⟨o3,h3,e⟩:=Z9 e;have h3:X8 (bH p.Funcs) NN ((0:Int),{x11 with t:=x12},x12)=some o3:=h3
    have hfH:∀f∈p.Funcs,OkH f/\f.Name≠Q7d:=fun f hm=>by
     have ho:=hp.f f hm;have hwv:=Q6a wF hm;have hwf:wF f=1+f.Ret.Stars.toNat+sm wV f.Params+sm wS f.Body:=rfl;have lp:=S7 Z2h f.Params;exact⟨⟨ho.pos,ho.ty,ho.ps,by omega⟩,hn.2 f hm⟩
    have hfB:∀f∈p.Funcs,OkF f/\wF f<=5000:=fun f hm=>⟨hp.f f hm,by have:=Q6a wF hm;omega⟩;have st:=X0q (l:=p.Funcs) (by omega) hfH;have sb:=Y9q (l:=p.Funcs) (by omega) hfB;have B0:Bh p.Funcs ((0:Int),{x11 with t:=x12},x12):=⟨qC 0,by dsimp only;omega,i1,i2,by dsimp only;rw[i3];rfl,i4,by dsimp only;rw[i5];rfl,fun q hq=>(by dsimp only at hq;rw[i3]at hq;cases hq),fun j q f h=>by dsimp only at h;rw[i3]at h;simp at h⟩
    have inv3:=Z4o (Bh p.Funcs) (fun _=>True) (fun r:Except (Z1×Q0) Q0=>∃x,r= .error x) (fun s o hs h=>by
     have:=st s o hs h;cases o with
     |go s'=>exact this.1
     |brk s'=>trivial
     |ret r=>exact this) NN _ o3 B0 h3
    cases o3 with
    |go s=>exact inv3.elim
    |ret r=>obtain⟨x,rfl⟩:=inv3;cases e
    |brk s1=>
     refine Zz.two (b':=bH (p.Funcs++[fz a b d x y])) id (Bh p.Funcs) (fun s=>p.Funcs.length-s.1.toNat) h3 (fun s s' hs h=>by
      obtain⟨q1,q2,q3,q4⟩:=st s (.go s') hs h;have:=hs.i0;exact⟨q1,by(try dsimp only);omega,q4 _⟩) B0 (by dsimp only;omega) ?_
     intro s0 hs0 hb0;obtain⟨t1,t2⟩:=st s0 (.brk s1) hs0 hb0;subst t2;obtain⟨x22,x23,x24⟩:=s0;obtain⟨j1,j2,j3,j4,j5,j6,j7,j8,j9⟩:=hs0
     dsimp only at t1 j1 j2 j3 j4 j5 j6 j7 j8 j9
     dsimp only[Lp.thn]at e
     obtain⟨y4,h4,e⟩:=ok1 (fun e h=>by cases h) e;obtain⟨⟨sg,k1,k2⟩,k,hy4⟩:=main_ret h4
     have hsc:V1 x24 1=some true:=by
      have:=j8 sg k1 (by rw[k2];decide)
      rwa[k2]at this
     obtain⟨o5,h5,e⟩:=Z9 e;have h5:X8 (bB p.Funcs) NN ((0:Int),{y4 with fun_:=x23.fun_},y4.t)=some o5:=h5
     have B5:Bb p.Funcs ((0:Int),{y4 with fun_:=x23.fun_},y4.t):=by
      subst hy4;exact⟨qC 0,by dsimp only;omega,⟨j3.tab,j3.gl,j3.co,trivial,j3.gn,j3.cn,j3.ug,j3.uc,j3.lg,j3.lc⟩,by dsimp only;omega,hsc,j9⟩
     have inv5:=Z4o (Bb p.Funcs) (fun s'=>s'.2.1.u.Codes.length=p.Funcs.length) (fun r:Except (Z1×Q0) Q0=>∃x,r= .error x) (fun s o hs h=>by
      have:=sb s o hs h;cases o with
      |go s'=>exact this.1
      |brk s'=>rw[this.2];have h6:=hs.cn.uc;have h7:=hs.sl;dsimp only at h6⊢;omega
      |ret r=>exact this) NN _ o5 B5 h5
     cases o5 with
     |go s=>exact inv5.elim
     |ret r=>obtain⟨x,rfl⟩:=inv5;cases e
     |brk s5=>
      obtain⟨y34,y35,y36⟩:=s5;cases e
      dsimp only at inv5 hl
      obtain⟨m,hm,_⟩:=j3.co
      dsimp only at hm
      have hml:m.length=p.Funcs.length:=by
       have:=j3.cn
       dsimp only at this
       rw[hm]at this;have this:m.length=x23.signs.length:=this;omega
      have hcl:=j3.uc
      dsimp only at hcl
      have hh:=X2q (c:={x23 with t:=x24}) hsc j6 hm (by rw[hm]at j7;exact j7) (by omega) (by dsimp only;omega) (by dsimp only;omega) a b d x y;refine⟨(x22+1,{xc (mo m.length) {x23 with t:=x24}with fun_:=x23.fun_},x24),(x22+1,{xc (mo m.length) {x23 with t:=x24}with fun_:=x23.fun_},x24),?_,?_,?_⟩
      . show bH (p.Funcs++[fz a b d x y]) (x22,x23,x24)=_;unfold bH
        dsimp only
        rw[t1,dt (show(p.Funcs.length:Int)<((p.Funcs++[fz a b d x y]).length:Int) by rw[qW];simp;omega),cond_true,Z4q,qV,hh,w64 (by omega)]
        rfl
      . unfold bH
        dsimp only
        rw[df (show¬x22+1<((p.Funcs++[fz a b d x y]).length:Int) by rw[qW];simp;omega)]
        rfl
      . have hmk:N0 (xc (mo m.length) {x23 with t:=x24}) (p.Funcs++[fz a b d x y])=some (.ok (xc (mo m.length) y4)):=by
         rcases main_k (o:=mo m.length) {x23 with t:=x24} p.Funcs (p.Funcs++[fz a b d x y]) _ h4 with hh|hh
         . exact hh.elim
         . exact hh
        refine Zz.bnd hmk ?_
        dsimp only[exL,exE,exC]
        refine Zz.two (b':=bB (p.Funcs++[fz a b d x y])) (Xk.ex (mo m.length)) (Bb p.Funcs) (fun s=>p.Funcs.length-s.1.toNat) h5 (fun s s' hs h=>by
         obtain⟨q1,q2,q3,q4⟩:=sb s (.go s') hs h;have:=hs.i0;exact⟨q1,by(try dsimp only);omega,q4 _ _⟩) B5 (by dsimp only;omega) ?_
        intro s0 hs0 hb0;obtain⟨t3,t4⟩:=sb s0 (.brk (y34,y35,y36)) hs0 hb0;obtain⟨x34,x35,x36⟩:=s0;cases t4;obtain⟨r1,r2,r3,r4,r5,r6⟩:=hs0
        dsimp only at t3 r1 r2 r3 r4 r5 r6
        have hcl:=r3.uc
        dsimp only at hcl
        obtain⟨l,sl,hb⟩:=body_zz (c:=xc (mo m.length) {x35 with t:=x36}) r3.tab r5 (n:=p.Funcs.length) (ss:=x35.signs) (cs:=x35.u.Codes) (z:=⟨Q7d,false,1,[],[]⟩) rfl r4 rfl (by omega) a b d x y;refine⟨(x34+1,{xc (mo m.length) {x35 with t:=x36}with u:={x35.u with Codes:=x35.u.Codes++[⟨Q7d,false,1,sl,l⟩]},fun_:=O3.dead},x36),(x34+1,{xc (mo m.length) {x35 with t:=x36}with u:={x35.u with Codes:=x35.u.Codes++[⟨Q7d,false,1,sl,l⟩]},fun_:=O3.dead},x36),?_,?_,?_⟩
        . show bB (p.Funcs++[fz a b d x y]) (x34,xc (mo m.length) x35,x36)=_;unfold bB
          dsimp only
          rw[t3,dt (show(p.Funcs.length:Int)<((p.Funcs++[fz a b d x y]).length:Int) by rw[qW];simp;omega),cond_true,Z4q,qV];refine bnd hb ?_;rw[w64 (by omega)]
          rfl
        . unfold bB
          dsimp only
          rw[df (show¬x34+1<((p.Funcs++[fz a b d x y]).length:Int) by rw[qW];simp;omega)]
          rfl
        . exact⟨_,_,rfl,rfl,rfl⟩
 . rintro⟨x10,x11,x12⟩ o ⟨j1,j2,j3,j4,j5,j6,j7,j8,j9⟩ h
   dsimp only at j1 j2 j3 j4 j5 j6 j7 j8 j9 h
   by_cases hlt:x10<(p.Globals.length:Int)
   . rw[dt hlt,cond_true]at h;obtain⟨v,hv,h⟩:=Z9 h;have hvm:=Y1d hv;have hwv:=Q6a wV hvm;obtain⟨v1,v2,v3⟩:=oV hwv (by omega);cases hb:L6 {x11 with t:=x12} v with
     |none=>rw[hb]at h;cases h
     |some y=>
      rw[hb,qV]at h;cases y with
      |error x=>cases h;exact⟨_,rfl⟩
      |ok y=>
       cases h;have a:=(Y8z j3 (hp.g v hvm) v1 v2 v3 (by dsimp only;omega)).val hb;have z:=(global_n j3 (hp.g v hvm) v1 v2 v3 (by dsimp only;omega)).val hb;obtain⟨gm,k,z1,z2⟩:=z.gl
       dsimp only at z1
       have hw:qJ .i64 (x10+1)=x10+1:=w64 (by omega);refine⟨by dsimp only;omega,by dsimp only;omega,a.ck,a.f.trans j4,a.s.trans j5,by have:=a.d;dsimp only at this⊢;rw[hw];omega,?_,z.co.trans j8,z.uc.trans j9⟩
       dsimp only
       rw[z2];rw[z1]at j7;exact Y4c (hn.1 v hvm) j7
   . rw[df hlt,cond_false]at h;cases h;exact⟨j3,j4,j5,j7,j8⟩
theorem lq_text{s:List UInt8}{p q:Pos}{ts:List X5}(h:Lq s p ts q):s.length<=100000->∀t∈ts,t.Text<:+:s:=by
 induction h with
 |nil=>intro _ t ht;cases ht
 |@blank s p q ts hs n hn h0 k ih=>
  intro hl t ht;exact(ih (by rw[List.length_drop];omega) t ht).trans (List.drop_suffix n s).isInfix
 |@tok s p q t ts hs hb ht k ih=>
  intro hl x hx
  rcases qZ.1 hx with rfl|hx
  . obtain⟨y,hy,hp⟩:=Z1d s hs hl;rw[ht]at hy;cases hy;exact(hp rfl).pre.isInfix
  . exact(ih (by rw[List.length_drop];omega) x hx).trans (List.drop_suffix _ s).isInfix
theorem Ok.val{E A:Type}{y:Option (Except E A)}{p:A->Prop}(h:Ok y p){x:A}(e:y=some (.ok x)):p x:=by
 obtain⟨z,hz,h⟩:=h;rw[e]at hz;cases hz;exact h
theorem Ok.also{E A:Type}{y:Option (Except E A)}{p q:A->Prop}(h:Ok y p)(k:∀x,y=some (.ok x)->q x):Ok y (fun x=>p x/\q x):=by
 obtain⟨z,hz,h⟩:=h;refine⟨z,hz,?_⟩;cases z with
 |error e=>trivial
 |ok x=>exact⟨h,k x hz⟩
theorem name_n(r:Z0)(x:List UInt8×Z0)(e:V6 r=some (.ok x)):∃t∈r.l,x.1=t.Text:=by
 unfold V6 at e;obtain⟨y,hy,e⟩:=ok1 (fun e h=>by cases h) e;cases e;exact⟨y.1,((Z8h r 1).val hy).1.1,rfl⟩
theorem behind_n(r:Z0)(v:G9)(x:G9×Z0)(e:E4 r v=some (.ok x)):x.1.Name=v.Name:=by
 unfold E4 at e;obtain⟨y1,h1,e⟩:=ok1 (fun e h=>by cases h) e
 dsimp only[jn]at e
 obtain⟨y2,h2,e⟩:=Z9 e
 have fin:∀(x3:G9)(x4:Z0),x3.Name=v.Name->((Y7 x4 ([59]:List UInt8)).bind fun y10=>exE y10 (fun y10=>some (qX (ε:=Z6×Z0) (x3,y10))))=some (.ok x)->x.1.Name=v.Name:=by
  intro x3 x4 hn e;obtain⟨y,_,e⟩:=ok1 (fun e h=>by cases h) e;cases e;exact hn
 cases hb:y2.1 with
 |false=>rw[hb,cond_false]at e;refine fin _ _ ?_ e;rfl
 |true=>
  rw[hb,cond_true]at e;obtain⟨y3,h3,e⟩:=Z9 e;obtain⟨y4,h4,e⟩:=ok1 (fun e h=>by cases h) e;obtain⟨_,_,e⟩:=Z9 e;obtain⟨o,ho,e⟩:=Z9 e;have inv:=Z4o (fun s:G9×Z0=>s.1.Name=v.Name) (fun s:G9×Z0=>s.1.Name=v.Name) (fun r:Except (Z6×Z0) (G9×Z0)=>∃x,r= .error x) ?_ NN _ o rfl ho
  . cases o with
    |go s=>exact inv.elim
    |ret r=>obtain⟨x,rfl⟩:=inv;cases e
    |brk s=>
     obtain⟨x7,x8⟩:=s
     dsimp only[Lp.thn]at e
     dsimp only at inv
     cases hr:x7.Brace with
     |false=>rw[hr,cond_false]at e;exact fin _ _ inv e
     |true=>
      rw[hr,cond_true]at e;obtain⟨y,_,e⟩:=ok1 (fun e h=>by cases h) e;exact fin _ _ inv e
  . rintro⟨x7,x8⟩ o i h
    dsimp only at i h
    cases hr:x7.Brace with
    |false=>rw[hr,cond_false]at h;cases h;exact i
    |true=>
     rw[hr,cond_true]at h;obtain⟨y5,h5,h⟩:=Z9 h;cases hb:y5.1 with
     |false=>rw[hb,cond_false]at h;cases h;exact i
     |true=>
      rw[hb,cond_true]at h;cases h6:X6 y5.2 with
      |none=>rw[h6]at h;cases h
      |some y6=>
       rw[h6,qV]at h;cases y6 with
       |error x=>cases h;exact⟨_,rfl⟩
       |ok y6=>
        obtain⟨_,_,h⟩:=Z9 h;cases h;exact i
theorem outer_n{r:Z0}(hr:Rd r)(hz:∀t∈r.l,t.Text≠Q7d){p:K1}(hn:Nn p)(hw:wP p<=5000):Ok (G5 r p) (fun x=>Nn x.2):=by
 unfold G5;have hwp:wP p=sm wT p.Structs+sm wV p.Globals+sm wF p.Funcs:=rfl;have l1:=S7 Y3f p.Structs;have l2:=S7 Z2h p.Globals;have l3:=S7 Y1o p.Funcs;obtain⟨q,eq,qz⟩:=Z5j hr;refine Ok.step eq ?_
 dsimp only[jn]
 have rest:Ok ((U6 r).bind fun y13=>exC y13 (fun y13=>(V6 y13.2).bind fun y14=>exC y14 (fun y14=>(V0 y14.2 ([40]:List UInt8)).bind fun y15=>bif !y15 then((E4 y14.2 (⟨q,y13.1,y14.1,[],[],false⟩:G9)).bind fun y16=>exC y16 (fun y16=>(W8 (qQ p.Globals+qQ ([y16.1]:List G9))).bind fun _=>some (qX (y16.2,{p with Globals:=p.Globals++([y16.1]:List G9)}))) (fun e9=>some (qK (e9.1,e9.2,p))))else((M6 y14.2).bind fun y17=>exC y17 (fun y17=>(J0 y17.2).bind fun y18=>exC y18 (fun y18=>(W8 (qQ p.Funcs+qQ ([{(⟨q,y13.1,y14.1,y17.1,[]⟩:I1)with Body:=y18.1}]:List I1))).bind fun _=>some (qX (y18.2,{p with Funcs:=p.Funcs++([{(⟨q,y13.1,y14.1,y17.1,[]⟩:I1)with Body:=y18.1}]:List I1)}))) (fun e11=>some (qK (e11.1,e11.2,p)))) (fun e10=>some (qK (e10.1,e10.2,p))))) (fun e12=>some (qK (e12.1,e12.2,p)))) (fun e13=>some (qK (e13.1,e13.2,p)))) (fun x=>Nn x.2):=by
  refine Ok.bind (g:=fun e:Z6×Z0=>(e.1,e.2,p)) (Q8b hr) fun y13 a13=>?_;refine Ok.bind (g:=fun e:Z6×Z0=>(e.1,e.2,p)) ((Q8t (hr.after a13.2)).also (name_n y13.2)) fun y14 a14=>?_;obtain⟨a14,t,t1,t2⟩:=a14;have hne:y14.1≠Q7d:=by rw[t2];exact hz t (a13.2.tk t t1)
  have a134:=a13.2.trans a14.2.1;have hr14:=hr.after a134;obtain⟨b,e15,_⟩:=Q9n y14.2 [40];refine Ok.step e15 ?_;cases b with
  |false=>
   refine Ok.bind (g:=fun e:Z6×Z0=>(e.1,e.2,p)) ((Y0d hr14 (v:=⟨q,y13.1,y14.1,[],[],false⟩) a13.1 a14.1 qz).also (behind_n _ _)) fun y16 a16=>?_;obtain⟨a16,a17⟩:=a16;refine Ok.step (E1 (by simp;omega)) ?_;refine Ok.ok ⟨?_,hn.2⟩;intro v hv
   rcases jQ.1 hv with hv|hv
   . exact hn.1 v hv
   . have:v=y16.1:=by simpa using hv
     rw[this,a17];exact hne
  |true=>
   refine Ok.bind (g:=fun e:Z6×Z0=>(e.1,e.2,p)) (Y3w hr14) fun y17 a17=>?_;have a17':=a134.trans a17.2;refine Ok.bind (g:=fun e:Z6×Z0=>(e.1,e.2,p)) (Y6n (hr.after a17')) fun y18 a18=>?_;refine Ok.step (E1 (by simp;omega)) ?_;refine Ok.ok ⟨hn.1,?_⟩;intro f hf
   rcases jQ.1 hf with hf|hf
   . exact hn.2 f hf
   . have:f=⟨q,y13.1,y14.1,y17.1,y18.1⟩:=by simpa using hf
     rw[this];exact hne
 obtain⟨b,e2,_⟩:=Q9n r [115,116,114,117,99,116];refine Ok.step e2 ?_;cases b with
 |false=>exact rest
 |true=>
  obtain⟨b,e3⟩:=Y3v r 2 [123];refine Ok.step e3 ?_;cases b with
  |false=>exact rest
  |true=>
   refine Ok.bind (g:=fun e:Z6×Z0=>(e.1,e.2,p)) (N3 r _) fun y4 a4=>?_;refine Ok.bind (g:=fun e:Z6×Z0=>(e.1,e.2,p)) (Q8t (hr.after a4)) fun y5 a5=>?_;have a45:=a4.trans a5.2.1;refine Ok.bind (g:=fun e:Z6×Z0=>(e.1,e.2,p)) (Y4m (hr.after a45)) fun y6 a6=>?_;refine Ok.step (E1 (by simp;omega)) ?_;exact Ok.ok hn
theorem try_n{r:Z0}(hr:Rd r)(hz:∀t∈r.l,t.Text≠Q7d){p:K1}{r':Z0}(e:Q0j r=some (.ok (p,r'))):Nn p:=by
 rw[Y9z]at e;obtain⟨o,ho,e⟩:=Z9 e;have lr:=hr.len;have inv:=Z4o (fun s:K1×Z0=>OkP s.1/\Af r s.2 (wP s.1)/\Nn s.1) (fun s:K1×Z0=>Nn s.1) (fun r:Except (K1×Z6×Z0) (K1×Z0)=>∃x,r= .error x) ?_ NN _ o ⟨⟨no,no,no⟩,(Af.refl r).mono (qD 0),no,no⟩ ho
 . cases o with
   |go s=>exact inv.elim
   |ret r=>obtain⟨x,rfl⟩:=inv;cases e
   |brk s=>cases e;exact inv
 . rintro⟨x4,x5⟩ o ⟨i1,i2,i3⟩ h
   dsimp only at i1 i2 i3
   unfold Y1p at h
   dsimp only at h
   have li:=i2.len
   by_cases hl:(0:Int)<(x5.l.length:Int)
   . rw[dt hl,cond_true]at h;obtain⟨z,ez,hz2⟩:=Y1x (hr.after i2) i1 (by omega);have hn:=outer_n (hr.after i2) (fun t ht=>hz t (i2.tk t ht)) i3 (by omega);rw[ez]at h hn;cases z with
     |error e=>cases h;exact⟨_,rfl⟩
     |ok x=>
      cases h;obtain⟨h1,k,h2,h3,h4⟩:=hz2;exact⟨h1,(i2.trans h4).mono (by dsimp only;omega),hn.val rfl⟩
   . rw[df hl,cond_false]at h;cases h;exact i3
theorem X3i(s:List UInt8)(hs:s.length<=4000)(hz:¬Q7d<:+:s){p:K1}{q:Pos}(e:Q5j s=some (p,q,0)):p=⟨[],[],[]⟩\/(Nn p/\∃a b c d x q',Q5j (s++10::zz)=some ({p with Funcs:=p.Funcs++[fz a b c d x]},q',0)):=by
 obtain⟨⟨l,pe,er⟩,ey,hy⟩:=Y5z s (by omega);unfold Q5j at e;rw[ey,qV]at e
 dsimp only at hy e
 by_cases he:er=0
 . subst he;rw[c0 (b:=((0:Int)!=0)) rfl]at e
   have hx:Lx s (l.map Z0z)/\(∀t∈l,Pn t.Pos)/\Pn pe:=by
    rcases hy with hy|hy
    . exact hy.2
    . exact absurd rfl hy.1
   obtain⟨y,hy2,hq⟩:=lex_lq s (by omega);rw[ey]at hy2;cases hy2
   have hq:Lq s ⟨1,1⟩ l pe:=by
    rcases hq with hq|hq
    . exact hq.2
    . exact absurd rfl hq
   obtain⟨c1',c2⟩:=lx_cnt hx.1 (by omega);rw[List.length_map]at c1';have hr:Rd ⟨l,pe,0⟩:=⟨fun t ht=>by have:=c2 (Z0z t) (List.mem_map_of_mem ht);exact Nat.le_trans this.1 (by omega),by dsimp only;omega,⟨qC 0,(by decide:(0:Int)<=200)⟩,hx.2.1,hx.2.2,fun t ht=>(c2 (Z0z t) (List.mem_map_of_mem ht)).2.1,fun t ht=>(c2 (Z0z t) (List.mem_map_of_mem ht)).2.2⟩;obtain⟨z,ez,_⟩:=X1e hr;rw[ez,qV]at e;cases z with
   |error x=>
    injection e with e
    injection e with e1 _
    exact .inl e1.symm
   |ok x=>
    cases e;obtain⟨p,r'⟩:=x;have hn:Nn p:=try_n hr (fun t ht h=>hz (by rw[<-h];exact lq_text hq (by omega) t ht)) ez;obtain⟨tz,e',h1,h2⟩:=X0p s hs ey;obtain⟨_,a,b,c,d,x,h3⟩:=try_more (T:=tz) (q:=e') ⟨h2⟩ hr rfl ez;refine .inr ⟨hn,a,b,c,d,x,e',?_⟩;unfold Q5j;rw[h1,qV]
    dsimp only
    rw[c0 (b:=((0:Int)!=0)) rfl];exact bnd h3 rfl
 . rw[c1 (by simpa using he)]at e;cases e;exact .inl rfl
theorem X0z:Q1y ⟨[],[],[]⟩=some (⟨[],[],[],0⟩,⟨1,1⟩,4):=by kernel_rfl
theorem X1a{p:K1}(hp:OkP p)(hw:wP p<=5000)(hn:Nn p){u:Q9x}{q:Pos}(e:Q1y p=some (u,q,0))(hl:u.Codes.length<100)(a b d x y:Pos):∃z q',Q1y {p with Funcs:=p.Funcs++[fz a b d x y]}=some ({u with Codes:=u.Codes++[z]},q',0)/\z.Name=Q7d:=by
 obtain⟨t,ht,hT⟩:=newTab;unfold Q1y at e⊢;rw[ht,qV]at e⊢;have h0:C0 (⟨t,⟨[],[],[],0⟩,some [],some [],[],[],O3.nil⟩:Q0):=⟨⟨hT,⟨[],rfl,fun a b h=>(by cases h)⟩,⟨[],rfl,fun a b h=>(by cases h)⟩,trivial,rfl,rfl,rfl,rfl,by simp,by simp⟩,rfl,rfl,rfl,rfl,rfl⟩;obtain⟨z,hz,hq⟩:=try_g hp hw h0.ck rfl rfl rfl;rw[hz,qV]at e;cases z with
 |error x=>
  have he:x.1.e=0:=by
   injection e with e
   injection e with _ e
   injection e
  exact absurd he hq.2
 |ok c'=>
  cases e;obtain⟨z,c2,h1,h2,h3⟩:=try_zz hp hw hn h0 hz hl a b d x y;refine⟨z,⟨0,0⟩,?_,h3⟩;rw[h1,qV];show some (c2.u,_,_)=_;rw[h2]
theorem zz_in{s:List UInt8}(h:Q7d<:+:s):∃i:Nat,i+3<=s.length/\(s.drop i).take 3=Q7d:=by
 obtain⟨a,b,h⟩:=h;subst h;refine⟨a.length,?_,?_⟩
 . simp[Q7d]
 . rw[List.append_assoc,List.drop_left]
   rfl
theorem Z0s{α:Type}[BEq α][LawfulBEq α](x:α):(x !=x)=false:=by simp
theorem Q8e{R A:Type}{body:Int->Option (Lp Int R)}{f:Lp Int R->Option A}{X:Option A}(n:Nat)(hn:n<=1000000000)(h1:∀k,k<n->body (k:Int)=some (.go (qJ .i64 ((k:Int)+1))))(h2:body (n:Int)=some (.brk (n:Int)))(hX:f (.brk (n:Int))=X):(X8 body NN 0).bind f=X:=
 run_bind (fun k=>(k:Int)) n (.brk (n:Int)) rfl (by omega) (fun k hk=>by rw[h1 k hk,w64 (by omega)];rfl) h2 trivial hX
theorem Y3k(l:List Q5u)(hl:l.length<=1000000000):Q9u l l=some true:=by
 unfold Q9u;rw[c0 (Z0s _)];refine Q8e l.length hl (fun k hk=>?_) (by rw[c0 (dge _)]) rfl;rw[c1 (dlt hk),P6 hk]
 simp only[qV,Z0s,cond_false]
theorem Y5r:∀(n m:Nat)(l:List Y1),(∀t∈l,Dp n t)->l.length<=1000000000->n<m->(rec7 m).Q1o l l=some true
 |n,0,l,h,hl,hm=>by omega
 |n,m+1,l,h,hl,hm=>by
  show Z0m (rec7 m) l l=_
  unfold Z0m
  rw[c0 (Z0s _)]
  refine Q8e l.length hl (fun k hk=>?_) (by rw[c0 (dge _)]) rfl
  have hd:=h _ (jT hk)
  rw[c1 (dlt hk),P6 hk]
  simp only[jn,qV,Z0s,beq_self_eq_true,Bool.not_true,Bool.or_false,cond_false]
  generalize l[k]=t at hd⊢
  cases hd with
  |@mk n' _ hk' _ kl=>
   rw[Y5r n' m t.Kids hk' (by omega) (by omega)]
   rfl
theorem Y8m{l:List Y1}(h:∀t∈l,Dp 70000 t)(hl:l.length<=1000000000):Q1o l l=some true:=Y5r 70000 NN l h hl (by unfold NN;omega)
theorem Z6e:∀(n m:Nat)(l:List K2),(∀t∈l,Ad n t)->l.length<=1000000000->n<m->(rec8 m).R1 l l=some true
 |n,0,l,h,hl,hm=>by omega
 |n,m+1,l,h,hl,hm=>by
  show Q8u (rec8 m) l l=_
  unfold Q8u
  rw[c0 (Z0s _)]
  refine Q8e l.length hl (fun k hk=>?_) (by rw[c0 (dge _)]) rfl
  have hd:=h _ (jT hk)
  rw[c1 (dlt hk),P6 hk]
  simp only[jn,qV,Z0s,beq_self_eq_true,Bool.not_true,Bool.or_false,cond_false]
  generalize l[k]=t at hd⊢
  cases hd with
  |@mk n' _ A P b e c al=>
   rw[Y8m A al.A]
   simp only[qV,Bool.not_true,cond_false]
   rw[Y8m P al.P]
   simp only[qV,Bool.not_true,cond_false]
   rw[Z6e n' m t.Body b al.b (by omega)]
   simp only[qV,Bool.not_true,cond_false]
   rw[Z6e n' m t.Else e al.e (by omega)]
   simp only[qV,Bool.not_true,cond_false]
   refine Q8e t.Cases.length al.c (fun j hj=>?_) (by rw[c0 (dge _)]) rfl
   have hm:=jT hj
   rw[c1 (dlt hj),P6 hj]
   simp only[qV,Z0s,beq_self_eq_true,Bool.not_true,Bool.or_false,cond_false]
   rw[Z6e n' m t.Cases[j].Body (c _ hm) (al.cb _ hm) (by omega)]
   rfl
theorem X3h{u:Q9x}(h:Uo u):Z1k u u=some true:=by
 have hg:=h.g;have hd:=h.d;have hc:=h.c;unfold Z1k;rw[Y3k _ (by omega)]
 simp only[qV,Z0s,Bool.not_true,Bool.or_false,cond_false]
 refine Q8e u.Data.length (by omega) (fun k hk=>?_) (by rw[c0 (dge _)]) ?_
 . rw[c1 (dlt hk),P6 hk]
   simp
 refine Q8e u.Codes.length (by omega) (fun k hk=>?_) (by rw[c0 (dge _)]) rfl;have hq:=h.cd _ (jT hk);rw[c1 (dlt hk),P6 hk]
 simp only[jn,qV,Z0s,beq_self_eq_true,Bool.not_true,Bool.or_false,cond_false]
 rw[Y3k _ (by have:=hq.2.2;omega)]
 simp only[qV,Bool.not_true,cond_false]
 rw[show R1 u.Codes[k].Body u.Codes[k].Body=some true from Z6e 10000 NN _ hq.1 hq.2.1 (by unfold NN;omega)]
 rfl
theorem X0v:Q7p=some true:=by kernel_rfl
theorem Y9u(s:List UInt8):∃u b,Q7q s=some (u,b)/\(b=true->s.length<=4000/\Uo u/\∃p q r,Q5j s=some (p,q,0)/\OkP p/\wP p<=5000/\Q1y p=some (u,r,0)):=by
 unfold Q7q
 by_cases h:(4000:Int)<s.length
 . rw[c1 (dt h)];exact⟨_,_,rfl,fun h=>by cases h⟩
 rw[c0 (df h)];obtain⟨p,q,e,hr,ho⟩:=Read_any s (by omega);rw[hr,qV]
 dsimp only
 by_cases he:e=0
 . subst he;rw[c0 (b:=((0:Int)!=0)) rfl];obtain⟨o1,o2⟩:=ho rfl;obtain⟨u,r,f,hc,hf,hu⟩:=X3j o1 o2;rw[hc,qV];refine⟨_,_,rfl,fun hb=>?_⟩;have hf0:f=0:=by simpa using hb
   subst hf0;exact⟨by omega,hu,p,q,r,rfl,o1,o2,hc⟩
 . rw[c1 (bne_iff_ne.2 he)];exact⟨_,_,rfl,fun h=>by cases h⟩
theorem sub3{s:List UInt8}{i:Nat}(h:i+3<=s.length):sub s (i:Int) ((i:Int)+3)=some ((s.drop i).take 3):=by
 unfold sub;rw[if_pos (by omega),List.drop_take]
 congr 2
 omega
theorem Y5k(s:List UInt8):Q6r s=some true:=by
 unfold Q6r;rw[X0v];obtain⟨u,b,hu,hb⟩:=Y9u s;refine bnd hu ?_
 dsimp only
 cases b with
 |false=>rfl
 |true=>
 obtain⟨hl,ho,p,q,r,hr,o1,o2,hc⟩:=hb rfl
 by_cases h1:(100:Int)<=(u.Codes.length:Int)
 . rw[dt h1];rfl
 rw[df h1,Bool.not_true,Bool.or_self,cond_false];refine Exists.elim (Q1n (R:=Bool) (body:=fun(x1:Int)=>(bif decide ((qJ .i64 (x1+3))<=(qQ s:Int))then((sub s x1 (qJ .i64 (x1+3))).bind fun u1=>bif decide (u1=([122,122,57]:List UInt8))then((some true).bind fun y3=>some (Lp.ret y3))else(some (Lp.go (qJ .i64 (x1+1)))))else(some (Lp.brk x1)):Option (Lp (Int) (Bool)))) (n:=NN) (s:=(0:Int)) (fun x=>0<=x/\x<=s.length/\∀i:Nat,(i:Int)<x->i+3<=s.length->(s.drop i).take 3≠Q7d) (fun x=>s.length-x.toNat) (fun o=>o= .ret true\/∃x,o= .brk x/\¬Q7d<:+:s) ⟨qC 0,by omega,fun i hi=>by omega⟩ (Q7a (by omega)) ?_) ?_
 . intro x ⟨i1,i2,i3⟩;rw[w64 (x:=x+3) (by omega)]
   by_cases hx:x+3<=(s.length:Int)
   . rw[dt hx,cond_true];obtain⟨k,rfl⟩:=jR i1;rw[sub3 (by omega),qV]
     by_cases hz:(s.drop k).take 3=Q7d
     . rw[dt (show(s.drop k).take 3=[122,122,57]from hz)];exact⟨_,rfl,.inl rfl⟩
     . rw[df (show¬(s.drop k).take 3=[122,122,57]from hz),cond_false,w64 (by omega)];refine⟨_,rfl,⟨by omega,by omega,fun i hi h3=>?_⟩,by omega⟩
       by_cases hik:i=k
       . subst hik;exact hz
       . exact i3 i (by omega) h3
   . rw[df hx,cond_false];refine⟨_,rfl,.inr ⟨x,rfl,fun h=>?_⟩⟩;obtain⟨i,h1,h2⟩:=zz_in h;exact i3 i (by omega) h1 h2
 intro o ⟨ho2,hq⟩;refine bnd ho2 ?_
 rcases hq with rfl|⟨x,rfl,hz⟩
 . rfl
 dsimp only[Lp.thn]
 rw[E1 (by simp;omega),qV];obtain⟨v,b2,hv,_⟩:=Y9u (s++10::zz)
 by_cases h39:(3900:Int)<s.length
 . refine bnd hv ?_;rw[c1 (dt h39)]
   rfl
 rcases X3i s hl hz hr with rfl|⟨hn,a,b,c,d,y,q',hr2⟩
 . rw[X0z]at hc;cases hc
 obtain⟨z,q2,hc2,hz2⟩:=X1a o1 o2 hn hc (by omega) a b c d y
 have hU:Q7q (s++10::zz)=some ({u with Codes:=u.Codes++[z]},true):=by
  unfold Q7q;have hzl:zz.length=28:=rfl;rw[c0 (df (by rw[qW,qY,hzl];omega)),hr2,qV]
  dsimp only
  rw[c0 (b:=((0:Int)!=0)) rfl,hc2,qV]
  rfl
 refine bnd hU ?_;rw[c0 (df h39)]
 dsimp only
 rw[w64 (by omega),show((qQ (u.Codes++[z]):Int)!=(qQ u.Codes:Int)+1)=false by rw[qW];simp,Bool.not_true,Bool.or_self,cond_false,Z4q,qV,dt (show z.Name=[122,122,57]from hz2),Bool.not_true,cond_false,Y5o (by simp),qV,List.take_left,qV,cond_true];show(Z1k u u).bind _=_;rw[X3h ho]
 rfl
end
theorem Y5j(s:List UInt8){A:Prop}(_:A):Q6r s=some true:=Y5k s
end Go.Proofs.YtfffghclkmbopaaGreat
