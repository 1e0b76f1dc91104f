/- Lemmas that hold for every program. -/
import Derived.Test.YtbfpdnogfkbiaaaGreatVLC
import Derived.KernelRfl
set_option linter.unusedVariables false
namespace Go.Proofs.YtbfpdnogfkbiaaaGreat
open List renaming length → qQ, length_append → qW, length_cons → qY, mem_cons → qZ, mem_append → jQ, length_singleton → qG, set → qP, append_assoc → qS, length_take → qE, mem_singleton → kQ, replicate → kZ, getElem?_eq_getElem → kM, getElem?_append_left → kR, getElem?_append_right → kS, getElem?_eq_none → kU, prefix_refl → jJ, mem_of_getElem? → jW, length_set → jG, getElem_mem → jT
open IntKind renaming wrap → qJ
open Except renaming error → qK, ok → qX
open Option renaming bind_some → qV, isSome → kJ
open Int renaming toNat → qF, le_refl → qC, eq_ofNat_of_zero_le → jR
open Bool renaming and_eq_true → qM
open Nat renaming le_refl → qD, zero_le → kX, le_of_ble_eq_true → kN, le_trans → jH
section
variable{X:Cx}
theorem call_s3{n:Nat}(h:S3 X n):∀c x,Ckx X c->OkX x->x.Kind=7->20*wE x+2<=n+1->Og Ep ((O8 (n+1)).M5 c x) (QV X c (6*wE x-2)):=by
 intro c x hc hx h7 hn;show Og Ep (Q2n (O8 n) c x) _;unfold Q2n
 dsimp only[jn]
 have px:=Q4s x
 by_cases o1:x.Name=[105,110]
 . rw[c1 (dt o1)];exact Og.ok ⟨Tg.refl hc.tab,Dp.k0 rfl (by omega)⟩
 rw[c0 (df o1)]
 by_cases o2:x.Name=[111,117,116]
 . rw[c1 (dt o2)];have h1:=hx.ex.2.1 h7 o2;obtain⟨a,ha,ham⟩:=Z1c (k:=0) (show 0<x.Kids.length by omega);have wa:=Z5a ham;refine Og.step ha ?_;exact Og.bind (h.number c a hc (hx.kids a ham) (by omega)) (fun y a1=>Og.ok ⟨a1.1,Dp.k1 (n:=6*wE x-6) rfl (a1.2.mono (by omega)) (by omega)⟩) (fun e he=>Og.err he)
 rw[c0 (df o2)];obtain⟨l,hl,hv⟩:=hc.co;have hg:D3 c.codes x.Name=Z0i l x.Name:=by unfold D3;rw[hl];rfl
 have main:∀b:Bool,(b=true->(D3 c.codes x.Name).isSome=true)->Og Ep (bif !b then((X0 x.Pos 4).bind fun y3=>exC y3 (fun y3=>none) (fun e2=>some (qK (e2,c))))else((idx c.signs ((D3 c.codes x.Name).getD 0)).bind fun u6=>(X1 c u6.ret).bind fun y4=>(X5 (fun(x12,x13,x14,x15)=>(bif decide (x12<(qQ x.Kids:Int))then((idx x.Kids x12).bind fun u7=>((O8 n).Z6 ({x14 with t:=x15}) u7).bind fun y5=>exL y5 (fun y5=>bif decide (x12<(qQ u6.params:Int))then((idx u6.params x12).bind fun u8=>(O0 y5.2 u7 y5.1 u8).bind fun y6=>exC y6 (fun y6=>(L1 (qQ x13.Kids+qQ ([y6]:List Y6))).bind fun _=>some (Lp.go (qJ .i64 (x12+1),({x13 with Kids:=x13.Kids++([y6]:List Y6)}:Y6),({y5.2 with t:=y5.2.t}:Q0),y5.2.t))) (fun e3=>some (Lp.ret (qK (e3,y5.2)))))else(some (Lp.go (qJ .i64 (x12+1),x13,({y5.2 with t:=y5.2.t}:Q0),y5.2.t)))))else(some (Lp.brk (x12,x13,({x14 with t:=x15}:Q0),x15))):Option (Lp (Int×Y6×Q0×Z7) (Except (Z4×Q0) (Y2×Q0))))) NN ((0:Int),(⟨10,0,0,(D3 c.codes x.Name).getD 0,false,0,false,y4,[]⟩:Y6),c,c.t)).bind fun o=>o.thn (fun(x12,x13,x14,x15)=>bif (qQ x.Kids:Int)!=(qQ u6.params:Int)then((X0 x.Pos 5).bind fun y7=>exC y7 (fun y7=>none) (fun e5=>some (qK (e5,{x14 with t:=x15}))))else((F6 ({x14 with t:=x15}) u6.ret).bind fun y8=>some (qX ((⟨y8,x13,false⟩:Y2),{x14 with t:=x15})))) (fun r=>some r))) (QV X c (6*wE x-2)):=by
  intro b hb;cases b with
  |false=>rw[c1 (b:=!false) rfl];exact Q0d hx.pn (by decide)
  |true=>
  rw[c0 (b:=!true) rfl];have hs:=hb rfl;rw[hg]at hs⊢;obtain⟨v,hv2⟩:=Option.isSome_iff_exists.1 hs;rw[hv2];obtain⟨s,hs2,hsm⟩:=J2 (hv _ _ hv2);obtain⟨v0,_,hs3⟩:=Q0i hs2;have hsig:X.sig[v.toNat]?=some s.params.length:=by rw[<-hc.cx.s];unfold cx;rw[List.getElem?_map,hs3];rfl
  refine Og.step hs2 ?_;obtain⟨p,hp⟩:=S4 hc.tab s.ret;refine Og.step hp ?_;have hk:=Q3l Q4s x.Kids;have hw:=X1k x;have hxw:=hx.w;have hkl:x.Kids.length<=10000:=by omega
  refine Og.loop (fun z=>0<=z.1/\z.1<=x.Kids.length/\(((z.2.1.Kids.length:Int)=min z.1 s.params.length/\z.2.1.Kind=10)/\z.2.1.Var=v)/\(∀k∈z.2.1.Kids,Dp X (6*wE x-5) k)/\U32 z.2.1.Num/\Tg c {z.2.2.1 with t:=z.2.2.2}) (fun z=>x.Kids.length-z.1.toNat) ⟨qC 0,by dsimp only;omega,⟨⟨by simp;omega,rfl⟩,rfl⟩,fun k hk=>(by cases hk),Q4t,Tg.refl hc.tab⟩ (by dsimp only;omega) ?_;rintro⟨x12,x13,x14,x15⟩ ⟨i1,i2,⟨⟨i3,i7⟩,i8⟩,i4,i6,i5⟩
  dsimp only at i1 i2 i3 i4 i5 i6 i7 i8⊢
  by_cases hlt:x12<x.Kids.length
  . rw[c1 (dt hlt)];obtain⟨k,hk1,hkm⟩:=J2 ⟨i1,hlt⟩;have wk:=Z5a hkm;have pk:=Q4s k;have ok:=hx.kids k hkm;refine Rn.step hk1 ?_;refine Rn.bindG (h.value _ k (hc.tg i5) ok (by omega)) (fun y5 a5=>?_) (fun e he=>Rn.ok (Og.err he));have tg:=i5.trans a5.1
    by_cases hp2:x12<s.params.length
    . rw[c1 (dt hp2)];obtain⟨q,hq,_⟩:=J2 ⟨i1,hp2⟩;refine Rn.step hq ?_;refine Rn.bindG (X2f a5.1.tab ok.pn (n:=6*wE x-6) (by omega) (a5.2.mono (by omega)) q) (fun y6 a6=>?_) (fun e he=>Rn.ok (Og.err he));refine Rn.step (B7 (by simp;omega)) ?_;refine Rn.ok ⟨⟨by dsimp only;rw[w64 (by omega)];omega,by dsimp only;rw[w64 (by omega)];omega,⟨⟨by dsimp only;rw[w64 (by omega),qW];simp;omega,i7⟩,i8⟩,?_,i6,tg⟩,by dsimp only;rw[w64 (by omega)];omega⟩;intro z hz
      rcases jQ.1 hz with hz|hz
      . exact i4 z hz
      . rw[kQ.1 hz];exact a6.mono (by omega)
    . rw[c0 (df hp2)];exact Rn.ok ⟨⟨by dsimp only;rw[w64 (by omega)];omega,by dsimp only;rw[w64 (by omega)];omega,⟨⟨by dsimp only;rw[w64 (by omega)];omega,i7⟩,i8⟩,i4,i6,tg⟩,by dsimp only;rw[w64 (by omega)];omega⟩
  . rw[c0 (df hlt)];refine Rn.ok ?_;show Og Ep (bif (qQ x.Kids:Int)!=(qQ s.params:Int)then _ else _) _
    by_cases hkp:(x.Kids.length:Int)=s.params.length
    case neg=>rw[c1 (by simpa using hkp)];exact Q0d hx.pn (by decide)
    case pos=>
     rw[c0 (by simpa using hkp)];obtain⟨k,hk⟩:=Z8j {x14 with t:=x15} s.ret;exact Og.step hk (Og.ok ⟨i5,Dp.kk i4 (by omega) i6 (by dsimp only;omega) ⟨by dsimp only;rw[i7];exact kX _,fun e=>absurd (i7.symm.trans e) (by decide),fun _=>⟨v.toNat,by dsimp only;omega,by rw[hsig];congr 1;dsimp only;omega⟩⟩⟩)
 have hf:=hc.fn;cases hfn:c.fun_ with
 |nil=>exact main _ fun e=>e
 |dead=>rw[hfn]at hf;exact hf.elim
 |some f=>
  rw[hfn]at hf;refine Og.step (x:=false) rfl ?_;rw[c1 (b:=!false) rfl];refine Og.step (x:=f) rfl ?_;obtain⟨v,b,hy,_⟩:=find_g hf x.Name;refine Og.step hy ?_;cases b with
  |true=>exact main false fun e=>by cases e
  |false=>exact main _ fun e=>e
theorem expr_s3{n:Nat}(h:S3 X n):∀c x,Ckx X c->OkX x->20*wE x+3<=n+1->Og Ep ((O8 (n+1)).J1 c x) (QV X c (6*wE x-2)):=by
 intro c x hc hx hn;show Og Ep (Q2l (O8 n) c x) _;unfold Q2l
 dsimp only[jn]
 have px:=Q4s x;have har:=hx.ar
 by_cases k1:x.Kind=1
 . rw[c1 (by rw[k1];rfl)];exact Og.ok ⟨Tg.refl hc.tab,Dp.k0 rfl (by omega) hx.e.nu⟩
 rw[c0 (by simpa using k1)]
 by_cases k2:x.Kind=2
 . rw[c1 (by rw[k2];rfl)];exact Og.bind (name_g hc hx.pn) (fun y a=>Og.ok ⟨by dsimp only;rw[a.1];exact Tg.refl hc.tab,a.2.mono (by omega)⟩) (fun e he=>Og.err he)
 rw[c0 (by simpa using k2)]
 by_cases k3:x.Kind=3
 . rw[c1 (by rw[k3];rfl)];rw[k3]at har;exact Og.bind (h.unary c x hc hx har (by omega)) (fun y a=>Og.ok a) (fun e he=>Og.err he)
 rw[c0 (by simpa using k3)]
 by_cases k4:x.Kind=4
 . rw[c1 (by rw[k4];rfl)];rw[k4]at har;exact Og.bind (h.binary c x hc hx har (by omega)) (fun y a=>Og.ok a) (fun e he=>Og.err he)
 rw[c0 (by simpa using k4)]
 by_cases k5:x.Kind=5
 . rw[c1 (by rw[k5];rfl)];rw[k5]at har;exact Og.bind (h.assign c x hc hx har (hx.ex.2.2 k5) (by omega)) (fun y a=>Og.ok a) (fun e he=>Og.err he)
 rw[c0 (by simpa using k5)]
 by_cases k6:x.Kind=6
 . rw[c1 (by rw[k6];rfl)];rw[k6]at har;exact Og.bind (h.cond c x hc hx har (by omega)) (fun y a=>Og.ok a) (fun e he=>Og.err he)
 rw[c0 (by simpa using k6)]
 by_cases k7:x.Kind=7
 . rw[c1 (by rw[k7];rfl)];exact Og.bind (h.call c x hc hx k7 (by omega)) (fun y a=>Og.ok a) (fun e he=>Og.err he)
 rw[c0 (by simpa using k7)]
 by_cases k8:x.Kind=8
 . rw[c1 (by rw[k8];rfl)];rw[k8]at har;have har:2<=x.Kids.length:=har;obtain⟨a,ha,ham⟩:=Z1c (k:=0) (show 0<x.Kids.length by omega);obtain⟨b,hb,hbm⟩:=Z1c (k:=1) (show 1<x.Kids.length by omega);have wa:=Z5a ham;have wb:=Z5a hbm;have oa:=hx.kids a ham;have ob:=hx.kids b hbm;refine Og.step ha ?_;refine Og.bind (h.value c a hc oa (by omega)) (fun y7 a7=>?_) (fun e he=>Og.err he);obtain⟨e,q,hq⟩:=Z7v a7.1.tab y7.1.n;refine Og.step hq ?_;cases q with
   |false=>rw[c1 (b:=!false) rfl];exact Og.step ha (Q0d oa.pn (by decide))
   |true=>
    rw[c0 (b:=!true) rfl];refine Og.step hb ?_;refine Og.bind (h.number y7.2 b (hc.tg a7.1) ob (by omega)) (fun y10 a10=>?_) (fun e he=>Og.err he);obtain⟨s,p,hi⟩:=Y2e a10.1.tab y7.1.term y10.1 e 1;exact Og.step hi (Og.ok ⟨a7.1.trans a10.1,Dp.k2 (n:=6*wE x-6) rfl (a7.2.mono (by omega)) (a10.2.mono (by omega)) (by omega)⟩)
 rw[c0 (by simpa using k8)]
 by_cases k9:x.Kind=9
 . rw[c1 (by rw[k9];rfl)];rw[k9]at har;exact Og.bind (h.member c x hc hx har (by omega)) (fun y a=>Og.ok a) (fun e he=>Og.err he)
 rw[c0 (by simpa using k9)]
 have sz:Og Ep ((B3 c x.Pos x.Type_).bind fun y14=>exC y14 (fun y14=>(K2 y14.2.t y14.1).bind fun y15=>bif y15==0 then((X0 x.Pos 5).bind fun y16=>exC y16 (fun y16=>none) (fun e12=>some (qK (e12,{y14.2 with fun_:=c.fun_}))))else((K2 y14.2.t y14.1).bind fun y17=>some (qX ((⟨1,(⟨1,0,qJ .u32 y17,0,false,0,false,false,[]⟩:Y6),false⟩:Y2),{y14.2 with fun_:=c.fun_})))) (fun e13=>some (qK (e13.1,{e13.2 with fun_:=c.fun_})))) (QV X c (6*wE x-2)):=by
  refine Og.bind (Y3y hc.tab hx.pn hx.ty) (fun y a=>?_) (fun e he=>Og.err he);refine Og.step (Q6s _ _) ?_;cases(szT y.2.t y.1==0)with
  |true=>rw[c1 (b:=true) rfl];exact Q0d hx.pn (by decide)
  |false=>
   rw[c0 (b:=false) rfl];refine Og.step (Q6s _ _) ?_;exact Og.ok ⟨by dsimp only;rw[a.back];exact a,Dp.k0 rfl (by omega)⟩
 by_cases k10:x.Kind=10
 . rw[c1 (by rw[k10];rfl),c1 (by rw[k10];rfl)];rw[k10]at har;exact Og.bind (h.step c x hc hx har (by omega)) (fun y a=>Og.ok a) (fun e he=>Og.err he)
 rw[c0 (by simpa using k10)]
 by_cases k11:x.Kind=11
 . rw[c1 (by rw[k11];rfl)];rw[k11]at har;exact Og.bind (h.step c x hc hx har (by omega)) (fun y a=>Og.ok a) (fun e he=>Og.err he)
 rw[c0 (by simpa using k11)];exact sz
theorem Y0z:∀n,S3 X n
 |0=>⟨fun _ _ _ _ h=>by omega,fun _ _ _ _ h=>by omega,fun _ _ _ _ _ h=>by omega,fun _ _ _ _ _ _ h=>by omega,fun _ _ _ _ _ h=>by omega,fun _ _ _ _ h=>by omega,fun _ _ _ _ _ _ h=>by omega,fun _ _ _ _ _ h=>by omega,fun _ _ _ _ _ h=>by omega,fun _ _ _ _ _ h=>by omega,fun _ _ _ _ _ h=>by omega,fun _ _ _ _ h=>by omega,fun _ _ _ _ h=>by omega⟩
 |n+1=>⟨asked_s3 (Y0z n),X5i (Y0z n),unary_s3 (Y0z n),both_s3 (Y0z n),X6f (Y0z n),lying_s3 (Y0z n),X6h (Y0z n),cond_s3 (Y0z n),call_s3 (Y0z n),X5k (Y0z n),step_s3 (Y0z n),expr_s3 (Y0z n),value_s3 (Y0z n)⟩
variable{X:Cx}
theorem i32_nz{b:Int}(h:U32 b)(h0:b≠0):qJ .i64 (qJ .i32 b)≠0:=by
 unfold U32 at h
 simp only[qJ,IntKind.signed,IntKind.bits]
 simp
 omega
theorem Y4g(k:Int):∃m,Q5j k=some m/\(m<=3):=by
 unfold Q5j
 dsimp only[jn]
 cases(k==1)<;>cases(k==5)<;>cases(k==17)<;>cases(k==6)<;>cases(k==7)<;>cases(k==8)<;>cases(k==9)<;>exact⟨_,rfl,by decide⟩
theorem Y1h:∀(n:Nat)(m:Nat)(t:Y6),Dp X n t->n<=m->∃b,(Y5e m).D9 t=some b
 |0,_,_,h,_=>by cases h
 |n+1,0,_,_,h=>by omega
 |n+1,m+1,t,.mk hk nu _ _,h=>by
  show∃b,Q3n (Y5e m) t=some b
  unfold Q3n
  obtain⟨k,hk1,hk2⟩:=Y4g t.Kind
  rw[hk1,qV]
  by_cases hl:(t.Kids.length:Int)=k
  . rw[c0 (by simpa using hl)]
    refine Exists.elim (L5 (body:=fun(x1:Int)=>(bif decide (x1<(qQ t.Kids:Int))then((idx t.Kids x1).bind fun u1=>((Y5e m).D9 u1).bind fun y2=>bif !y2 then(some (Lp.ret false))else(some (Lp.go (qJ .i64 (x1+1)))))else(some (Lp.brk x1)):Option (Lp (Int) (Bool)))) (n:=NN) (s:=0) (fun s=>0<=s/\s<=t.Kids.length) (fun s=>t.Kids.length-s.toNat) (fun o=>(∃s,o= .brk s)\/∃r,o= .ret r) ⟨by omega,by omega⟩ (Q6f (by omega)) ?_) ?_
    . rintro s ⟨s0,s1⟩
      by_cases hs:s<t.Kids.length
      . rw[c1 (dt hs)]
        obtain⟨x,hx,hxm⟩:=J2 ⟨s0,hs⟩
        obtain⟨b,hb⟩:=Y1h n m x (hk x hxm) (by omega)
        rw[hx,qV,hb,qV]
        cases b with
        |false=>exact⟨_,rfl,.inr ⟨_,rfl⟩⟩
        |true=>exact⟨_,rfl,⟨by rw[w64 (by omega)];omega,by rw[w64 (by omega)];omega⟩,by rw[w64 (by omega)];omega⟩
      . rw[c0 (df hs)];exact⟨_,rfl,.inl ⟨_,rfl⟩⟩
    . rintro o ⟨ho,hp⟩
      rw[ho,qV]
      rcases hp with⟨s,rfl⟩|⟨r,rfl⟩<;>exact⟨_,rfl⟩
  . rw[c1 (by simpa using hl)]
    exact⟨_,rfl⟩
variable{X:Cx}
theorem u32b(op:BinOp)(a b:Int):U32 (bits op .u32 a b):=Y3e _
theorem u1:U32 1:=⟨by decide,by decide⟩
theorem Y4z(b:Bool):∃y,Q9z b=some y/\U32 y:=by
 unfold Q9z;cases b with
 |true=>exact⟨1,rfl,u1⟩
 |false=>exact⟨0,rfl,Q4t⟩
theorem X2c(a b:Int):∃y,Z2r a b=some y/\U32 y:=by
 unfold Z2r Y3r;cases decide (qJ .i32 a<qJ .i32 b)with
 |true=>exact⟨1,rfl,u1⟩
 |false=>exact⟨0,rfl,Q4t⟩
theorem X2m(f a b:Int):∃y e,Z2c f a b=some (y,e)/\U32 y:=by
 unfold Z2c;obtain⟨y1,h1,u1'⟩:=Y4z (a==b);obtain⟨y2,h2,u2'⟩:=Y4z (a !=b);obtain⟨y3,h3,u3'⟩:=X2c a b;obtain⟨y4,h4,u4'⟩:=X2c b a;rw[h1,h2,h3,h4]
 cases(f==11)<;>cases(f==12)<;>cases(f==13)<;>cases(f==14)<;>cases(f==15)<;>cases(f==16)<;>first
  |exact⟨_,_,rfl,u1'⟩
  |exact⟨_,_,rfl,u2'⟩
  |exact⟨_,_,rfl,u3'⟩
  |exact⟨_,_,rfl,u4'⟩
  |exact⟨_,_,rfl,Y3e _⟩
  |exact⟨_,_,rfl,Q4t⟩
theorem div_any{a b:Int}(hb:U32 b):∃y,Y0p a b=some y/\U32 y:=by
 unfold Y0p
 by_cases h:b=0
 . rw[c1 (by rw[h];rfl)];exact⟨_,rfl,by unfold U32;decide⟩
 . rw[c0 (by simpa using h)];unfold Z6j Z8g;rw[show nz (qJ .i64 (qJ .i32 b))=some () by unfold nz;rw[if_neg (i32_nz hb h)]];exact⟨_,rfl,Y3e _⟩
theorem rem_any{a b:Int}(ha:U32 a)(hb:U32 b):∃y,Y0n a b=some y/\U32 y:=by
 unfold Y0n
 by_cases h:b=0
 . rw[c1 (by rw[h];rfl)];exact⟨_,rfl,ha⟩
 . rw[c0 (by simpa using h)];unfold Z4m Z8f;rw[show nz (qJ .i64 (qJ .i32 b))=some () by unfold nz;rw[if_neg (i32_nz hb h)]];exact⟨_,rfl,Y3e _⟩
theorem Y5q(f:Int){a b:Int}(ha:U32 a)(hb:U32 b):∃y e,Q7l f a b=some (y,e)/\U32 y:=by
 unfold Q7l
 dsimp only[jn]
 have hnn:nn (bits .and .u32 b 31)=some ():=by unfold nn;rw[if_pos (u32b _ _ _).1]
 have hL:∃y,Z7i a b=some y/\U32 y:=by
  unfold Z7i;rw[hnn];exact⟨_,rfl,Y3e _⟩
 have hR:∃y,Z4q a b=some y/\U32 y:=by
  unfold Z4q;rw[hnn];exact⟨_,rfl,Y3e _⟩
 obtain⟨yl,hl,ul⟩:=hL;obtain⟨yr,hr,ur⟩:=hR;obtain⟨yd,hd,ud⟩:=div_any (a:=a) hb;obtain⟨ym,hm,um⟩:=rem_any ha hb;obtain⟨yb,hbt,ub⟩:=Y4z (a==0);obtain⟨yc,ec,hc,uc⟩:=X2m f a b;rw[hl,hr,hd,hm,hbt,hc]
 have fin:∀{c:Bool}{X Y:Option (Int×Int)},(∃y e,X=some (y,e)/\U32 y)->(∃y e,Y=some (y,e)/\U32 y)->∃y e,(bif c then X else Y)=some (y,e)/\U32 y:=by
  intro c X Y h k;cases c<;>assumption
 repeat'(first
  |exact⟨_,_,rfl,Y3e _⟩
  |exact⟨_,_,rfl,u32b _ _ _⟩
  |exact⟨_,_,rfl,Q4t⟩
  |exact⟨_,_,rfl,ul⟩
  |exact⟨_,_,rfl,ur⟩
  |exact⟨_,_,rfl,ud⟩
  |exact⟨_,_,rfl,um⟩
  |exact⟨_,_,rfl,ub⟩
  |exact⟨_,_,rfl,uc⟩
  |refine fin ?_ ?_)
variable{X:Cx}
theorem X0h{n m:Nat}{t:Y6}(hd:Dp X (n+1) t)(hm:n<=m)(h:(Y5e (m+1)).D9 t=some true):Q5j t.Kind=some (t.Kids.length:Int)/\∀x∈t.Kids,(Y5e m).D9 x=some true:=by
 cases hd with
 |mk hk nu _=>
 have h:Q3n (Y5e m) t=some true:=h;unfold Q3n at h;obtain⟨k,hk1,hk2⟩:=Y4g t.Kind;rw[hk1,qV]at h
 by_cases hl:(t.Kids.length:Int)=k
 . rw[c0 (by simpa using hl)]at h;refine⟨by rw[hk1,hl],?_⟩
   have key:=loop_all (R:=Bool) (A:=Bool) (body:=fun(x1:Int)=>(bif decide (x1<(qQ t.Kids:Int))then((idx t.Kids x1).bind fun u1=>((Y5e m).D9 u1).bind fun y2=>bif !y2 then(some (Lp.ret false))else(some (Lp.go (qJ .i64 (x1+1)))))else(some (Lp.brk x1)):Option (Lp (Int) (Bool)))) (f:=fun o=>o.thn (fun(x1:Int)=>some true) (fun r=>some r)) (n:=t.Kids.length) (X:=some (decide (∀k (hk:k<t.Kids.length),(Y5e m).D9 t.Kids[k]=some true))) (by omega)
    (fun k=>if hk:k<t.Kids.length then decide ((Y5e m).D9 t.Kids[k]=some true)else false) false
    (fun k hk2 _=>by
     rw[c1 (dlt hk2),C1 hk2,qV,dif_pos hk2];obtain⟨b,hb⟩:=Y1h n m t.Kids[k] (hk _ (jT hk2)) hm;rw[hb,qV];cases b<;>rfl)
    (by rw[c0 (dge _)])
    (fun hall=>by
     show some true=_
     congr 1
     symm
     refine decide_eq_true fun k hk2=>?_;have:=hall k hk2;rw[dif_pos hk2]at this;exact of_decide_eq_true this)
    (fun⟨k,hk2,hp⟩=>by
     show some false=_
     congr 1
     symm
     refine decide_eq_false fun hall=>?_;rw[dif_pos hk2]at hp;exact absurd (hall k hk2) (of_decide_eq_false hp))
   rw[key]at h;have hall:=of_decide_eq_true (Option.some.inj h);intro x hx;obtain⟨k,hk2,rfl⟩:=List.getElem_of_mem hx;exact hall k hk2
 . rw[c1 (by simpa using hl)]at h;cases h
theorem X2h:∀(n m M:Nat)(t:Y6),Dp X n t->n<=m->n<=M->(Y5e M).D9 t=some true->∃y e,(rec5 m).H5 t=some (y,e)/\U32 y
 |0,_,_,_,h,_,_,_=>by cases h
 |n+1,0,_,_,_,h,_,_=>by omega
 |n+1,m+1,0,_,_,_,h,_=>by omega
 |n+1,m+1,M+1,t,hd,hm,hM,hn=>by
  obtain⟨ho,hk⟩:=X0h hd (by omega) hn
  obtain⟨dk,nu⟩:(∀k∈t.Kids,Dp X n k)/\U32 t.Num:=match hd with| .mk a b _ _=>⟨a,b⟩
  show∃y e,Z3o (rec5 m) t=some (y,e)/\U32 y
  unfold Z3o
  dsimp only[jn]
  by_cases k1:t.Kind=1
  . rw[c1 (by rw[k1];rfl)];exact⟨_,_,rfl,nu⟩
  rw[c0 (by simpa using k1)]
  have kid:∀j:Nat,j<t.Kids.length->∃x y e,idx t.Kids (j:Int)=some x/\(rec5 m).H5 x=some (y,e)/\U32 y:=fun j hj=>by
   obtain⟨y,e,h1,h2⟩:=X2h n m M t.Kids[j] (dk _ (jT hj)) (by omega) (by omega) (hk _ (jT hj))
   exact⟨_,y,e,C1 hj,h1,h2⟩
  have hlen:(t.Kind=5\/t.Kind=17)/\t.Kids.length=1\/(t.Kind=6\/t.Kind=7\/t.Kind=8)/\t.Kids.length=2\/t.Kind=9/\t.Kids.length=3:=by
   unfold Q5j at ho
   dsimp only[jn]at ho
   by_cases a5:t.Kind=5
   . rw[a5]at ho;exact .inl ⟨.inl a5,by have:=Option.some.inj ho;omega⟩
   by_cases a17:t.Kind=17
   . rw[a17]at ho;exact .inl ⟨.inr a17,by have:=Option.some.inj ho;omega⟩
   by_cases a6:t.Kind=6
   . rw[a6]at ho;exact .inr (.inl ⟨.inl a6,by have:=Option.some.inj ho;omega⟩)
   by_cases a7:t.Kind=7
   . rw[a7]at ho;exact .inr (.inl ⟨.inr (.inl a7),by have:=Option.some.inj ho;omega⟩)
   by_cases a8:t.Kind=8
   . rw[a8]at ho;exact .inr (.inl ⟨.inr (.inr a8),by have:=Option.some.inj ho;omega⟩)
   by_cases a9:t.Kind=9
   . rw[a9]at ho;exact .inr (.inr ⟨a9,by have:=Option.some.inj ho;omega⟩)
   . rw[beq_eq_false_iff_ne.2 k1,beq_eq_false_iff_ne.2 a5,beq_eq_false_iff_ne.2 a17,beq_eq_false_iff_ne.2 a6,beq_eq_false_iff_ne.2 a7,beq_eq_false_iff_ne.2 a8,beq_eq_false_iff_ne.2 a9]at ho;have:=Option.some.inj ho;omega
  obtain⟨x0,y0,e0,h0,f0,u0⟩:=kid 0 (by omega);rw[show idx t.Kids 0=some x0 from h0,qV,f0,qV]
  dsimp only
  by_cases he:e0=0
  case neg=>rw[c1 (by simpa using he)];exact⟨_,_,rfl,Q4t⟩
  rw[c0 (by rw[he];rfl)]
  have two:2<=t.Kids.length->∃y e,((idx t.Kids 1).bind fun u4=>((rec5 m).H5 u4).bind fun y6=>bif y6.2 !=0 then(some ((0:Int),y6.2))else(bif t.Kind !=6 then((Q9z (y6.1 !=0)).bind fun y7=>some (y7,(0:Int)))else((Q7l t.Fn y0 y6.1).bind fun y8=>some (y8.1,y8.2))))=some (y,e)/\U32 y:=fun h2=>by
   obtain⟨x1,y1,e1,h1,f1,u1'⟩:=kid 1 (by omega);rw[show idx t.Kids 1=some x1 from h1,qV,f1,qV]
   dsimp only
   cases(e1 !=0)with
   |true=>exact⟨_,_,rfl,Q4t⟩
   |false=>
    obtain⟨b,hb,ub⟩:=Y4z (y1 !=0);obtain⟨ya,ea,ha,ua⟩:=Y5q t.Fn u0 u1';rw[hb,ha];cases(t.Kind !=6)with
    |true=>exact⟨_,_,rfl,ub⟩
    |false=>exact⟨_,_,rfl,ua⟩
  obtain⟨b0,hb0,ub0⟩:=Y4z (y0 !=0)
  rcases hlen with⟨a|a,hl⟩|⟨a|a|a,hl⟩|⟨a,hl⟩<;>rw[a]at two⊢
  . obtain⟨ya,ea,ha,ua⟩:=Y5q t.Fn u0 Q4t;rw[ha];exact⟨_,_,rfl,ua⟩
  . exact⟨_,_,rfl,u32b _ _ _⟩
  . exact two (by omega)
  . rw[hb0];cases hq:((y0 !=0)==((7:Int)==8))with
    |true=>exact⟨b0,0,by simp[],ub0⟩
    |false=>
     have:=two (by omega)
     simpa[hq]using this
  . rw[hb0];cases hq:((y0 !=0)==((8:Int)==8))with
    |true=>exact⟨b0,0,by simp[],ub0⟩
    |false=>
     have:=two (by omega)
     simpa[hq]using this
  . obtain⟨x1,y1,e1,h1,f1,u1'⟩:=kid 1 (by omega);obtain⟨x2,y2,e2,h2,f2,u2'⟩:=kid 2 (by omega);rw[show idx t.Kids 1=some x1 from h1,show idx t.Kids 2=some x2 from h2,qV,qV,f1,f2];cases(y0 !=0)with
    |true=>exact⟨_,_,rfl,u1'⟩
    |false=>exact⟨_,_,rfl,u2'⟩
variable{X:Cx}
theorem Fold_any{n:Nat}{t:Y6}(h:Dp X n t)(hn:n<=NN):∃y e,Z6h t=some (y,e)/\U32 y:=by
 unfold Z6h;obtain⟨b,hb⟩:=Y1h n NN t h hn;rw[show D9 t=some b from hb,qV];cases b with
 |false=>exact⟨_,_,rfl,Q4t⟩
 |true=>
  obtain⟨y,e,hf,hu⟩:=X2h n NN NN t h hn hn hb;rw[c0 (b:=!true) rfl,show H5 t=some (y,e)from hf];exact⟨_,_,rfl,hu⟩
theorem Y2a{c:Q0}(hc:Ck c){x:Y8}(hx:OkX x):Og Ep (Z6 c x) (QV (cx c) c (6*wE x)):=(Y0z NN).value c x hc.x hx (by have:=hx.w;unfold NN;omega)
theorem expr_any{c:Q0}(hc:Ck c){x:Y8}(hx:OkX x):Og Ep (J1 c x) (QV (cx c) c (6*wE x-2)):=(Y0z NN).expr c x hc.x hx (by have:=hx.w;unfold NN;omega)
theorem Y9o{c:Q0}(hc:Ck c){x:Y8}(hx:OkX x):Og Ep (K3 c x) (QT (cx c) c (6*wE x)):=(Y0z NN).asked c x hc.x hx (by have:=hx.w;unfold NN;omega)
theorem X3t{c:Q0}(hc:Ck c){x:Y8}(hx:OkX x):Og Ep (V8 c x) (QT (cx c) c (6*wE x)):=(Y0z NN).number c x hc.x hx (by have:=hx.w;unfold NN;omega)
theorem sz_in{t:Z7}{n:Int}(h:szT t n≠0):0<=n/\n<t.list.length:=by
 by_cases h0:0<=n/\n<t.list.length
 . exact h0
 . exact absurd (by unfold szT;rw[Z7t h0]) h
theorem Gr.ty{t t':Z7}(h:Gr t t'){n:Int}(hn:0<=n/\n<t.list.length):tyT t' n=tyT t n:=by
 obtain⟨x,hx,_⟩:=J2 hn;unfold tyT;rw[h.idx hx,hx]
theorem Gr.pa{t t':Z7}(h:Gr t t'){n:Int}(hn:0<=n/\n<t.list.length):paT t' n=paT t n:=by
 unfold paT;rw[h.ty hn]
theorem X6c(w b:Int)(k:Int)(l:List Int)(hk:0<=k/\k<=100000)(hw:0<=w/\w<=32768)(hl:w=0\/w*k+w<=l.length)(hk2:w*k<=100000000)(hkw:0<=w*k):∃l2 x,X5 (fun(x26,x27)=>(bif decide (x27<w)then((nn (qJ .i64 (8*x27))).bind fun _=>(idx x26 (qJ .i64 ((qJ .i64 (w*k))+x27))).bind fun u5=>(idx x26 (qJ .i64 ((qJ .i64 (w*k))+x27))).bind fun u6=>some (Lp.go (qP x26 (qF (qJ .i64 ((qJ .i64 (w*k))+x27))) (qJ .u8 (Int.fdiv b (2^(min (qF (qJ .i64 (8*x27))) (IntKind.bits .u32))))),qJ .i64 (x27+1))))else(some (Lp.brk (x26,x27))):Option (Lp ((List Int)×Int) (Unit)))) NN (l,(0:Int))=some (.brk (l2,x))/\l2.length=l.length:=by
 refine Exists.elim (L5 (body:=fun(x26,x27)=>(bif decide (x27<w)then((nn (qJ .i64 (8*x27))).bind fun _=>(idx x26 (qJ .i64 ((qJ .i64 (w*k))+x27))).bind fun u5=>(idx x26 (qJ .i64 ((qJ .i64 (w*k))+x27))).bind fun u6=>some (Lp.go (qP x26 (qF (qJ .i64 ((qJ .i64 (w*k))+x27))) (qJ .u8 (Int.fdiv b (2^(min (qF (qJ .i64 (8*x27))) (IntKind.bits .u32))))),qJ .i64 (x27+1))))else(some (Lp.brk (x26,x27))):Option (Lp ((List Int)×Int) (Unit)))) (n:=NN) (s:=(l,(0:Int))) (fun s=>s.1.length=l.length/\0<=s.2/\s.2<=w) (fun s=>w.toNat-s.2.toNat) (fun o=>∃l2 x,o= .brk (l2,x)/\l2.length=l.length) ⟨rfl,qC 0,by dsimp only;omega⟩ (Q6f (by dsimp only;omega)) ?_) ?_
 . rintro⟨x26,x27⟩ ⟨i1,i2,i3⟩
   dsimp only at i1 i2 i3⊢
   by_cases hs:x27<w
   . rw[c1 (dt hs),w64 (x:=8*x27) (by omega),show nn (8*x27)=some () by unfold nn;rw[if_pos (by omega)],qV,w64 (x:=w*k) (by omega),w64 (x:=w*k+x27) (by omega)];obtain⟨q,hq,_⟩:=J2 (l:=x26) (n:=w*k+x27) ⟨by omega,by rw[i1];rcases hl with hl|hl<;>omega⟩
     rw[hq,qV,qV];exact⟨_,rfl,⟨by simpa using i1,by dsimp only;rw[w64 (by omega)];omega,by dsimp only;rw[w64 (by omega)];omega⟩,by dsimp only;rw[w64 (by omega)];omega⟩
   . rw[c0 (df hs)];exact⟨_,rfl,_,_,rfl,i1⟩
 . rintro o ⟨ho,l2,x,rfl,hl2⟩;exact⟨l2,x,ho,hl2⟩
theorem data_g{c:Q0}(hc:Ck c){v:M7}(hv:OkV v)(hx:∀x∈v.Init,wE x<=10000)(hl:v.Init.length<=5000){n:Int}(hn:szT c.t n≠0):Og Ep (Q5m c v n) (fun x=>Tg c x.2):=by
 have hin:=sz_in hn;have hsz:=X3k hc.tab n;unfold Q5m
 dsimp only[jn]
 refine Og.step (Q6s _ _) ?_;refine Og.step (x:=kZ (szT c.t n).toNat 0) (by unfold repl;rw[if_pos (by omega)]) ?_;refine Og.bind (X4l hc.tab hv n) (fun l hi=>?_) (fun e he=>Og.err he)
 have hll:l.length<=5000:=by
  rcases hi.1 with h|h
  . rw[h];simp
  . rw[h];exact hl
 have hox:∀x∈l,OkX x:=by
  intro x hm
  rcases hi.1 with h|h
  . rw[h]at hm;cases hm
  . rw[h]at hm;exact⟨hv.init x hm,hx x hm⟩
 refine Og.loop (fun s=>s.1.length=(szT c.t n).toNat/\0<=s.2.1/\s.2.1<=l.length/\Tg c {s.2.2.1 with t:=s.2.2.2}) (fun s=>l.length-s.2.1.toNat) ⟨by simp,qC 0,by dsimp only;omega,Tg.refl hc.tab⟩ (by dsimp only;omega) ?_;rintro⟨x1,x11,x12,x13⟩ ⟨i1,i2,i3,i4⟩
 dsimp only at i1 i2 i3 i4⊢
 by_cases hs:x11<l.length
 . rw[c1 (dt hs)];obtain⟨u,hu,hum⟩:=J2 ⟨i2,hs⟩;have ou:=hox u hum;have hne:l≠[]:=fun e=>by rw[e]at hs;simp at hs;omega
   have hw:=(hi.2 hne).2;refine Rn.step hu ?_;refine Rn.bindG (Y2a (hc.tg i4) ou) (fun y3 a3=>?_) (fun e he=>Rn.ok (Og.err he));have tg:=i4.trans a3.1;refine Rn.step (Y6k a3.1.tab n) ?_;have pu:=Q4s u;refine Rn.bindG (Z7j a3.1.tab ou.pn (n:=6*wE u) (by omega) a3.2 _) (fun y5 a5=>?_) (fun e he=>Rn.ok (Og.err he));have how:=ou.w;obtain⟨b,e,hf,hb⟩:=Fold_any a5 (by unfold NN;omega);refine Rn.step hf ?_;refine Y7k ou.pn (fun _=>?_) (fun e he=>Og.err he);refine Rn.step (Y6k a3.1.tab n) ?_;obtain⟨w,hwc,hw1,hw2⟩:=Y7x a3.1.tab (paT y3.2.t n);refine Rn.step hwc ?_;have hpa:paT y3.2.t n=paT c.t n:=tg.gr.pa hin;have hp0:=(hi.2 hne).1
   have hwe:w=0\/w=szT c.t (paT c.t n):=by
    by_cases h0:w=0
    . exact .inl h0
    . right
      rw[hw1 h0,hpa];exact tg.gr.sz (sz_in hp0)
   have hmul:w=0\/w*x11+w<=(x1.length:Int):=by
    rcases hwe with h|h
    . exact .inl h
    . right
      have h1:w*(x11+1)<=w*(l.length:Int):=Int.mul_le_mul_of_nonneg_left (by omega) hw2.1;have h2:w*(x11+1)=w*x11+w:=by rw[Int.mul_add,Int.mul_one]
      rw[h]at h1 h2⊢;omega
   have hk0:0<=w*x11:=Int.mul_nonneg hw2.1 i2
   have hk1:w*x11<=100000000:=by
    rcases hmul with h|h
    . rw[h];simp
    . omega
   obtain⟨l2,x,hlo,hl2⟩:=X6c w b x11 x1 (by omega) hw2 hmul hk1 hk0;refine Rn.step hlo ?_;exact Rn.ok ⟨⟨by dsimp only;rw[hl2];exact i1,by dsimp only;rw[w64 (by omega)];omega,by dsimp only;rw[w64 (by omega)];omega,tg⟩,by dsimp only;rw[w64 (by omega)];omega⟩
 . rw[c0 (df hs)];exact Rn.ok (Og.ok i4)
theorem X2b{K V:Type}[DecidableEq K](k k':K)(v:V):∀l:List (K×V),Z0i (Q9u l k v) k'=if k'=k then some v else Z0i l k'
 |[]=>by
  unfold Q9u Z0i
  dsimp only
  split
  . rfl
  . unfold Z0i;rfl
 |p::l=>by
  unfold Q9u
  by_cases h:k=p.1
  . rw[if_pos h]
    unfold Z0i
    dsimp only
    by_cases e:k'=k
    . rw[if_pos e,if_pos e]
    . rw[if_neg e,if_neg e,if_neg (fun q=>e (q.trans h.symm))]
  . rw[if_neg h]
    unfold Z0i
    by_cases e:k'=p.1
    . rw[if_pos e,if_neg (fun q=>h (q.symm.trans e)),if_pos e]
    . rw[if_neg e,if_neg e]
      exact X2b k k' v l
theorem X2a{K V:Type}[DecidableEq K](k:K)(v:V):∀l:List (K×V),Z0i l k=none->(Q9u l k v).length=l.length+1
 |[],_=>rfl
 |p::l,h=>by
  unfold Z0i at h
  unfold Q9u
  by_cases e:k=p.1
  . rw[if_pos e]at h;cases h
  . rw[if_neg e]at h
    rw[if_neg e,qY,X2a k v l h,qY]
theorem MpO.put{m:Option (List (List UInt8×Int))}{n:Nat}(h:MpO m n){k:List UInt8}{l:List (List UInt8×Int)}(hl:m=some l)(hn:Z3w m=n)(hk:Z0i l k=none):MpO (some (Q9u l k (n:Int))) (n+1)/\Z3w (some (Q9u l k (n:Int)))=n+1:=by
 obtain⟨l',hl',hv⟩:=h;rw[hl]at hl';cases hl';have hlen:l.length=n:=by rw[hl]at hn;exact hn
 refine⟨⟨_,rfl,fun k' v h=>?_⟩,by unfold Z3w;rw[Option.getD_some,X2a _ _ _ hk,hlen]⟩;rw[X2b]at h
 split at h
 . cases h;omega
 . have:=hv _ _ h;omega
theorem Y6c{o:Option Int}(h:o.isSome=false):o=none:=by cases o with
 |none=>rfl
 |some x=>cases h
theorem named_g{c:Q0}(hc:Ck c){p:Pos}(hp:Pn p)(nm:List UInt8):Og Ep (Q3z c p nm) (fun c'=>∃gm,c.globals=some gm/\Z0i gm nm=none/\c.gtypes.length<200/\c'={c with globals:=some (Q9u gm nm (c.gtypes.length:Int))}):=by
 unfold Q3z;obtain⟨gm,hg,hv⟩:=hc.gl;have hgn:=hc.gn;have hlg:=hc.lg;rw[hgn];cases hb:((D3 c.globals nm).isSome||(D3 c.codes nm).isSome)with
 |true=>rw[c1 (b:=true) rfl];exact Z3n hp (by decide)
 |false=>
  rw[c0 (b:=false) rfl]
  simp only[Bool.or_eq_false_iff]at hb
  have h1:=Y6c hb.1;unfold D3 at h1;rw[hg,qV]at h1
  by_cases h2:c.gtypes.length=200
  . rw[c1 (by rw[h2];rfl)];exact Z3n hp (by decide)
  . rw[c0 (beq_eq_false_iff_ne.2 (by omega)),hg,qV];exact Og.ok ⟨gm,rfl,h1,by omega,rfl⟩
theorem named2_g{c:Q0}(hc:Ck c){p:Pos}(hp:Pn p)(nm:List UInt8):Og Ep (L3 c p nm) (fun c'=>∃gm,c.codes=some gm/\Z0i gm nm=none/\c.signs.length<200/\c'={c with codes:=some (Q9u gm nm (c.signs.length:Int))}):=by
 unfold L3;obtain⟨gm,hg,hv⟩:=hc.co;have hgn:=hc.cn;have hlg:=hc.lc;rw[hgn];cases hb:((D3 c.globals nm).isSome||(D3 c.codes nm).isSome)with
 |true=>rw[c1 (b:=true) rfl];exact Z3n hp (by decide)
 |false=>
  rw[c0 (b:=false) rfl]
  simp only[Bool.or_eq_false_iff]at hb
  have h1:=Y6c hb.2;unfold D3 at h1;rw[hg,qV]at h1
  by_cases h2:c.signs.length=200
  . rw[c1 (by rw[h2];rfl)];exact Z3n hp (by decide)
  . rw[c0 (beq_eq_false_iff_ne.2 (by omega)),hg,qV];exact Og.ok ⟨gm,rfl,h1,by omega,rfl⟩
structure Gl(c c':Q0):Prop where
 ck:Ck c'
 f:c'.fun_=c.fun_
 d:c'.u.Data.length=c.u.Data.length+1
 gr:Gr c.t c'.t
 s:c'.signs=c.signs
 k:c'.gtypes.length=c.gtypes.length+1
theorem global_g{c:Q0}(hc:Ck c){v:M7}(hv:OkV v)(hd:v.Dims.length<=5000)(hx:∀x∈v.Init,wE x<=10000)(hl:v.Init.length<=5000)(hdl:c.u.Data.length<=100000):Og Ep (Q2k c v) (Gl c):=by
 unfold Q2k;refine Og.bind (X4g hc.tab hv hd) (fun y1 a1=>?_) (fun e he=>Og.err he);rw[a1.1.back];have hc1:=hc.tg a1.1;refine Og.bind (named_g hc1 hv.pos v.Name) (fun y2 a2=>?_) (fun e he=>Og.err he);obtain⟨gm,hg,hn,hlt,rfl⟩:=a2;have hf:y1.2.fun_=c.fun_:=a1.1.fun_eq;obtain⟨s,hs⟩:=X1r (c:={({y1.2 with globals:=some (Q9u gm v.Name (y1.2.gtypes.length:Int))}:Q0)with fun_:=c.fun_}) hc1.tab v.Name y1.1;refine Og.step hs ?_;have hug:=hc1.ug;refine Og.step (B7 (by simp;omega)) ?_;refine Og.step (B7 (by simp;omega)) ?_;have put:=hc1.gl.put hg hc1.gn hn
 have ck:Ck {({y1.2 with globals:=some (Q9u gm v.Name (y1.2.gtypes.length:Int))}:Q0)with u:={y1.2.u with Globals:=y1.2.u.Globals++[s]},gtypes:=y1.2.gtypes++[y1.1],fun_:=c.fun_}:=
  ⟨hc1.tab,by simpa using put.1,hc1.co,hc.fn,by simpa using put.2,hc1.cn,by simp;omega,hc1.uc,by simp;omega,hc1.lc⟩
 refine Og.bind (data_g ck hv hx hl a1.2) (fun y4 a4=>?_) (fun e he=>Og.err he);have he:=a4.eq;have hck:=ck.tg a4;have hu:y1.2.u=c.u:=by rw[a1.1.eq]
 refine Og.step (B7 (by rw[he];simp[hu];omega)) ?_;refine Og.ok ⟨⟨hck.tab,hck.gl,hck.co,hck.fn,hck.gn,hck.cn,hck.ug,hck.uc,hck.lg,hck.lc⟩,by dsimp only;rw[he],by dsimp only;rw[he];simp[hu],a1.1.gr.trans a4.gr,by dsimp only;rw[he];dsimp only;rw[a1.1.eq],by dsimp only;rw[he];dsimp only;rw[qW,a1.1.eq];rfl⟩
structure Tt(c c':Q0):Prop where
 eq:c'={c with t:=c'.t}
 tab:Tab c'.t
theorem Tt.refl{c:Q0}(h:Tab c.t):Tt c c:=⟨rfl,h⟩
theorem Tt.tg{a b c:Q0}(h:Tt a b)(g:Tg b c):Tt a c:=⟨by rw[g.eq,h.eq],g.tab⟩
theorem Tt.put{a b:Q0}(h:Tt a b){t:Z7}(ht:Tab t):Tt a {b with t:=t}:=⟨by
 have e:=h.eq
 generalize b.t=t' at e
 subst e
 rfl,ht⟩
theorem Ck.tt{c c':Q0}(h:Ck c)(g:Tt c c'):Ck c':=by
 have e:=g.eq;have t:=g.tab
 generalize c'.t=t' at e t
 subst e;exact⟨t,h.gl,h.co,h.fn,h.gn,h.cn,h.ug,h.uc,h.lg,h.lc⟩
structure OkG(s:Q3k):Prop where
 pos:Pn s.Pos
 f:∀v∈s.Fields,OkV v/\v.Dims.length<=5000
 l:s.Fields.length<=5000
theorem X5b{c:Q0}(hc:Tab c.t){l:List Q3k}(hl:l.length<=5000)(hs:∀s∈l,OkG s):Og Ep (Q1k c l) (Tt c):=by
 unfold Q1k;refine Og.loop (fun s=>0<=s.1/\s.1<=l.length/\Tab s.2) (fun s=>l.length-s.1.toNat) ⟨qC 0,by dsimp only;omega,hc⟩ (by dsimp only;omega) ?_;rintro⟨x2,x3⟩ ⟨i1,i2,i3⟩
 dsimp only at i1 i2 i3⊢
 by_cases h0:x2<l.length
 . rw[c1 (dt h0)];obtain⟨s,hs1,hsm⟩:=J2 ⟨i1,h0⟩;refine Rn.step hs1 ?_;obtain⟨m,e,t',hy,g1⟩:=open_any i3 s.Name;refine Rn.step hy ?_;exact Y7k (hs s hsm).pos (fun _=>Rn.ok ⟨⟨by dsimp only;rw[w64 (by omega)];omega,by dsimp only;rw[w64 (by omega)];omega,g1⟩,by dsimp only;rw[w64 (by omega)];omega⟩) (fun e he=>Og.err he)
 rw[c0 (df h0)];refine Rn.ok ?_;refine Og.loop (fun s=>0<=s.1/\s.1<=l.length/\Tt c {s.2.1 with t:=s.2.2}) (fun s=>l.length-s.1.toNat) ⟨qC 0,by dsimp only;omega,(Tt.refl hc).put i3⟩ (by dsimp only;omega) ?_;rintro⟨x12,x13,x14⟩ ⟨j1,j2,j3⟩
 dsimp only at j1 j2 j3⊢
 by_cases h1:x12<l.length
 . rw[c1 (dt h1)];obtain⟨s,hs1,hsm⟩:=J2 ⟨j1,h1⟩;have os:=hs s hsm;have osl:=os.l;refine Rn.step hs1 ?_
   refine Exists.elim (L5 (body:=(fun(x15,x24,x25,x26)=>(bif decide (x24<(qQ s.Fields:Int))then((idx s.Fields x24).bind fun u4=>(O1 ({x25 with t:=x26}) u4).bind fun y3=>exL y3 (fun y3=>(L1 (qQ x15+qQ ([(⟨u4.Name,y3.1,0⟩:K9)]:List K9))).bind fun _=>some (Lp.go (x15++([(⟨u4.Name,y3.1,0⟩:K9)]:List K9),qJ .i64 (x24+1),y3.2,y3.2.t))))else(some (Lp.brk (x15,x24,{x25 with t:=x26},x26))):Option (Lp ((List K9)×Int×Q0×Z7) (Except (Z4×Q0) (Q0)))))) (n:=NN) (s:=([],(0:Int),({x13 with t:=x14}:Q0),x14))
    (fun s'=>(0<=s'.2.1/\s'.2.1<=s.Fields.length)/\s'.1.length<=s'.2.1/\Tt c {s'.2.2.1 with t:=s'.2.2.2}) (fun s'=>s.Fields.length-s'.2.1.toNat)
    (fun o=>match o with
     | .go _=>False
     | .brk s'=>s'.1.length<=5000/\Tt c {s'.2.2.1 with t:=s'.2.2.2}
     | .ret z=>∃e,z=qK e/\Ep e) ⟨⟨qC 0,by dsimp only;omega⟩,by simp,j3⟩ (Q6f (by dsimp only;omega)) ?_) ?_
   . rintro⟨x15,x24,x25,x26⟩ ⟨k1,k2,k3⟩
     dsimp only at k1 k2 k3⊢
     by_cases h2:x24<s.Fields.length
     . rw[c1 (dt h2)];obtain⟨v,hv,hvm⟩:=J2 ⟨k1.1,h2⟩;have ov:=os.f v hvm;obtain⟨z,ez,hz⟩:=X2l k3.tab ov.1 ov.2;rw[hv,qV,ez,qV];cases z with
       |error e=>exact⟨_,rfl,_,rfl,hz⟩
       |ok y=>
        dsimp only[exL,exC]
        rw[B7 (by simp;omega),qV];exact⟨_,rfl,⟨by dsimp only;rw[w64 (by omega)];omega,by dsimp only;rw[w64 (by omega)];simp;omega,k3.tg hz⟩,by dsimp only;rw[w64 (by omega)];omega⟩
     . rw[c0 (df h2)];exact⟨_,rfl,by dsimp only;omega,k3⟩
   . rintro o ⟨ho,hp⟩;rw[ho,qV];cases o with
     |go _=>exact hp.elim
     |ret z=>
      obtain⟨e,rfl,he⟩:=hp;exact Rn.ok (Og.err he)
     |brk s'=>
      obtain⟨x15,x24,x25,x26⟩:=s';obtain⟨p1,p2⟩:=hp
      dsimp only at p1 p2
      obtain⟨m,e,t',hy,g1⟩:=X3l p2.tab s.Name p1;refine Rn.step hy ?_;refine Y7k os.pos (fun _=>Rn.ok ⟨⟨by dsimp only;rw[w64 (by omega)];omega,by dsimp only;rw[w64 (by omega)];omega,p2.put g1⟩,by dsimp only;rw[w64 (by omega)];omega⟩) (fun e he=>Og.err he)
 . rw[c0 (df h1)];exact Rn.ok (Og.ok j3)
structure Hd(c:Q0)(n:Nat)(c':Q0):Prop where
 ck:Ck c'
 f:c'.fun_=c.fun_
 d:c'.u.Data=c.u.Data
 k:c'.gtypes=c.gtypes
 s:∃s,c'.signs=c.signs++[s]/\s.params.length=n
structure OkH(f:Q1d):Prop where
 pos:Pn f.Pos
 r:OkT f.Ret
 p:∀v∈f.Params,OkV v
 l:f.Params.length<=5000
theorem header_g{c:Q0}(hc:Ck c){f:Q1d}(hf:OkH f):Og Ep (Q2j c f) (Hd c f.Params.length):=by
 have hpl:=hf.l;unfold Q2j;refine Og.bind (Y3y hc.tab hf.pos hf.r) (fun y1 a1=>?_) (fun e he=>Og.err he);have hc1:=hc.tg a1
 have cont:Og Ep ((L3 y1.2 f.Pos f.Name).bind fun y4=>exE y4 (fun y4=>bif decide (6<(qQ f.Params:Int))then((X0 f.Pos 2).bind fun y5=>exC y5 (fun y5=>none) (fun e2=>some (qK (e2,y4))))else((X5 (fun(x10,x11,x12,x13)=>(bif decide (x10<(qQ f.Params:Int))then((idx f.Params x10).bind fun u3=>(B3 ({x12 with t:=x13}) u3.Pos u3.Type_).bind fun y6=>exL y6 (fun y6=>(M0 y6.2.t y6.1).bind fun y7=>bif !y7 then((X0 u3.Pos 5).bind fun y8=>exC y8 (fun y8=>none) (fun e3=>some (Lp.ret (qK (e3,y6.2)))))else((L1 (qQ x11.params+qQ ([y6.1]:List Int))).bind fun _=>some (Lp.go (qJ .i64 (x10+1),(⟨x11.ret,x11.params++([y6.1]:List Int)⟩:A1),y6.2,y6.2.t)))))else(some (Lp.brk (x10,x11,{x12 with t:=x13},x13))):Option (Lp (Int×A1×Q0×Z7) (Except (Z4×Q0) (Q0))))) NN ((0:Int),(⟨y1.1,[]⟩:A1),y4,y4.t)).bind fun o=>o.thn (fun(x10,x11,x12,x13)=>(L1 (qQ x12.signs+qQ ([x11]:List A1))).bind fun _=>(L1 (qQ x12.u.Codes+qQ ([(⟨f.Name,y1.1==0,(qQ f.Params:Int),[],[]⟩:Q4n)]:List Q4n))).bind fun _=>some (qX ({x12 with t:=x13,u:={x12.u with Codes:=x12.u.Codes++([(⟨f.Name,y1.1==0,(qQ f.Params:Int),[],[]⟩:Q4n)]:List Q4n)},signs:=x12.signs++([x11]:List A1)}))) (fun r=>some r)))) (Hd c f.Params.length):=by
  refine Og.bind (named2_g hc1 hf.pos f.Name) (fun y2 a2=>?_) (fun e he=>Og.err he);obtain⟨gm,hg,hn,hlt,rfl⟩:=a2;cases decide (6<(f.Params.length:Int))with
  |true=>rw[c1 (b:=true) rfl];exact Q0d hf.pos (by decide)
  |false=>
  rw[c0 (b:=false) rfl];refine Og.loop (fun s=>(0<=s.1/\s.1<=f.Params.length)/\(s.2.1.params.length:Int)=s.1/\Tt {y1.2 with codes:=some (Q9u gm f.Name (y1.2.signs.length:Int))} {s.2.2.1 with t:=s.2.2.2}) (fun s=>f.Params.length-s.1.toNat) ⟨⟨qC 0,by dsimp only;omega⟩,rfl,Tt.refl hc1.tab⟩ (by dsimp only;omega) ?_;rintro⟨x10,x11,x12,x13⟩ ⟨i1,i2,i3⟩
  dsimp only at i1 i2 i3⊢
  by_cases h0:x10<f.Params.length
  . rw[c1 (dt h0)];obtain⟨v,hv,hvm⟩:=J2 ⟨i1.1,h0⟩;have ov:=hf.p v hvm;refine Rn.step hv ?_;refine Rn.bindG (Y3y i3.tab ov.pos ov.ty) (fun y6 a6=>?_) (fun e he=>Rn.ok (Og.err he));obtain⟨b,hb⟩:=Z4d y6.2.t y6.1;refine Rn.step hb ?_;cases b with
    |false=>rw[c1 (b:=!false) rfl];exact fail_l ov.pos (by decide) (fun e he=>Og.err he)
    |true=>
     rw[c0 (b:=!true) rfl];refine Rn.step (B7 (by simp;omega)) ?_;exact Rn.ok ⟨⟨by dsimp only;rw[w64 (by omega)];omega,by dsimp only;rw[w64 (by omega)];simp;omega,i3.tg a6⟩,by dsimp only;rw[w64 (by omega)];omega⟩
  . rw[c0 (df h0)];refine Rn.ok ?_;have he:=i3.eq;have hs:x12.signs=y1.2.signs:=by have:=congrArg Q0.signs he;exact this
    have hu:x12.u=y1.2.u:=by have:=congrArg Q0.u he;exact this
    have hgl:x12.globals=y1.2.globals:=by have:=congrArg Q0.globals he;exact this
    have hco:x12.codes=some (Q9u gm f.Name (y1.2.signs.length:Int)):=by have:=congrArg Q0.codes he;exact this
    have hgt:x12.gtypes=y1.2.gtypes:=by have:=congrArg Q0.gtypes he;exact this
    have hfu:x12.fun_=y1.2.fun_:=by have:=congrArg Q0.fun_ he;exact this
    have hlc:=hc1.lc;have huc:=hc1.uc
    dsimp only[Lp.thn]
    refine Og.step (B7 (by rw[hs];simp;omega)) ?_;refine Og.step (B7 (by rw[hu];simp;omega)) ?_;have put:=hc1.co.put hg hc1.cn hn;have hsg:y1.2.signs=c.signs:=by rw[a1.eq]
    refine Og.ok ⟨⟨i3.tab,by dsimp only;rw[hgl,hgt];exact hc1.gl,by dsimp only;rw[hco,hs];simpa using put.1,by dsimp only;rw[hfu];exact hc1.fn,by dsimp only;rw[hgl,hgt];exact hc1.gn,by dsimp only;rw[hco,hs];simpa using put.2,by dsimp only;rw[hu,hgt];exact hc1.ug,by dsimp only;rw[hu,hs];simp;omega,by dsimp only;rw[hgt];exact hc1.lg,by dsimp only;rw[hs];simp;omega⟩,by dsimp only;rw[hfu,a1.fun_eq],by dsimp only;rw[hu,a1.eq],by dsimp only;rw[hgt,a1.eq],x11,by dsimp only;rw[hs,hsg],by omega⟩
 cases(y1.1 !=0)with
 |false=>exact cont
 |true=>
  rw[c1 (b:=true) rfl];obtain⟨b,hb⟩:=Z4d y1.2.t y1.1;refine Og.step hb ?_;cases b with
  |false=>rw[c1 (b:=!false) rfl];exact Q0d hf.pos (by decide)
  |true=>exact cont
theorem main_g{c:Q0}(hc:Ck c){l:List Q1d}(hl:l.length=c.signs.length)(hp:∀f∈l,Pn f.Pos):Og Ep (Q1t c l) (fun c'=>∃k,(0<=k/\k<(c.signs.length:Int))/\c'={c with u:={c.u with Main:=k}}):=by
 unfold Q1t;obtain⟨gm,hg,hv⟩:=hc.co;have hgm:D3 c.codes ([109,97,105,110]:List UInt8)=Z0i gm [109,97,105,110]:=by unfold D3;rw[hg];rfl
 rw[hgm];cases he:Z0i gm [109,97,105,110]with
 |none=>rw[c1 (b:=!(kJ none)) rfl];exact Q0d (by unfold Pn;decide) (by decide)
 |some v=>
  have hr:=hv _ _ he;rw[c0 (b:=!(kJ (some v))) rfl];obtain⟨s,hs,_⟩:=J2 hr;obtain⟨f,hf,hfm⟩:=J2 (l:=l) (n:=v) ⟨hr.1,by rw[hl];exact hr.2⟩;refine Og.step hs ?_;cases decide (0<(s.params.length:Int))with
  |true=>rw[c1 (b:=true) rfl];exact Og.step hf (Q0d (hp f hfm) (by decide))
  |false=>
   rw[c0 (b:=false) rfl];refine Og.step hs ?_;cases(s.ret !=1)with
   |true=>rw[c1 (b:=true) rfl];exact Og.step hf (Q0d (hp f hfm) (by decide))
   |false=>exact Og.ok ⟨v,hr,rfl⟩
structure St(c c':Q0):Prop where
 eq:c'={c with t:=c'.t,fun_:=c'.fun_}
 ck:Ck c'
 gr:Gr c.t c'.t
 fn:∃f f',c.fun_= .some f/\c'.fun_= .some f'/\f'.scopes.length=f.scopes.length
 sl:slo c.fun_<=slo c'.fun_
theorem St.cl{c c':Q0}(h:St c c'):Clq (cx c) (cx c'):=⟨by rw[h.eq];rfl,by rw[h.eq];rfl,h.sl⟩
theorem St.trans{a b c:Q0}(h:St a b)(g:St b c):St a c:=by
 obtain⟨f,f',h1,h2,h3⟩:=h.fn;obtain⟨k,k',g1,g2,g3⟩:=g.fn;rw[h2]at g1;cases g1;exact⟨by rw[g.eq,h.eq],g.ck,h.gr.trans g.gr,⟨f,k',h1,g2,by omega⟩,jH h.sl g.sl⟩
theorem St.of{c c':Q0}(h:Ck c)(g:Tg c c'){f:G5}(hf:c.fun_= .some f):St c c':=⟨by
 have e:=g.eq
 have hfu:=g.fun_eq
 rw[hfu]
 exact e,h.tg g,g.gr,⟨f,f,hf,by rw[g.fun_eq];exact hf,rfl⟩,by rw[g.fun_eq];exact qD _⟩
theorem MpO.mono{m:Option (List (List UInt8×Int))}{n k:Nat}(h:MpO m n)(hk:n<=k):MpO m k:=by
 obtain⟨l,hl,hv⟩:=h;exact⟨l,hl,fun a b hb=>by have:=hv a b hb;omega⟩
theorem Y9c{c:Q0}(hc:Ck c){f:G5}(hf:c.fun_= .some f)(hs:1<=f.scopes.length){p:Pos}(hp:Pn p)(nm:List UInt8)(k:Int):Og Ep (S9 c p nm k) (fun x=>St c x.2/\slo x.2.fun_=slo c.fun_+1/\0<=x.1/\x.1<(slo x.2.fun_:Int)):=by
 have hfn:=hc.fn;rw[hf]at hfn;have hfn:Fn f:=hfn;have hsl:=hfn.sl;have hle:=hfn.le;have hty:=hfn.ty;unfold S9;refine Og.step (x:=f) (by rw[hf];rfl) ?_;rw[w64 (by omega),show((f.scopes.length:Int)-1)=((f.scopes.length-1:Nat):Int) by omega];have hlt:f.scopes.length-1<f.scopes.length:=by omega
 refine Og.step (C1 hlt) ?_;obtain⟨l,hl,hv⟩:=hfn.sc _ (jT hlt);rw[hl];cases he:(D3 (some l) nm).isSome with
 |true=>rw[c1 (b:=true) rfl];exact Q0d hp (by decide)
 |false=>
 rw[c0 (b:=false) rfl]
 by_cases h2:f.slots.length=200
 . rw[c1 (by rw[h2];rfl)];exact Q0d hp (by decide)
 rw[c0 (beq_eq_false_iff_ne.2 (by omega)),qV];obtain⟨s,hsl2⟩:=X1r (c:={c with fun_:=(O3.some ({f with scopes:=qP f.scopes (qF ((f.scopes.length-1:Nat):Int)) (some (Q9u l nm (qQ f.slots:Int)))}))}) hc.tab nm k;refine Og.step hsl2 ?_;refine Og.step (B7 (by simp;omega)) ?_;refine Og.step (B7 (by simp;omega)) ?_;refine Og.ok ⟨⟨rfl,⟨hc.tab,hc.gl,hc.co,?_,hc.gn,hc.cn,hc.ug,hc.uc,hc.lg,hc.lc⟩,Gr.refl _,⟨f,_,hf,rfl,by simp⟩,by rw[hf];simp[slo]⟩,by rw[hf];simp[slo],by dsimp only;rw[qW,w64 (by simp;omega)];simp,by dsimp only[slo];rw[qW,w64 (by simp;omega)];omega⟩
 change Fn _
 refine⟨by simp;omega,by simp;omega,?_,by simp;omega⟩;intro m hm
 dsimp only at hm⊢
 rw[qW]
 rcases Y4j hm with hm|rfl
 . exact(hfn.sc m hm).mono (by simp)
 . refine⟨_,rfl,fun a b hb=>?_⟩;rw[mGet_set]at hb
   split at hb
   . cases hb;simp;omega
   . have:=hv a b hb;simp;omega
theorem X0y{c:Q0}(hc:Ck c){x:Y8}(hx:OkX x):Og Ep (S0 c x) (fun y=>Tg c y.2/\∃t,y.1=⟨1,[t],[],false,[],[],[],0⟩/\Dp (cx c) (6*wE x) t):=by
 unfold S0
 dsimp only[jn]
 have px:=Q4s x;refine Og.bind (expr_any hc hx) (fun y1 a1=>?_) (fun e he=>Og.err he);have fin:∀(v:Y2)(c':Q0),Tg c c'->Dp (cx c) (6*wE x) v.term->Og Ep (some (qX (ε:=Z4×Q0) ((⟨1,([v.term]:List Y6),[],false,[],[],[],0⟩:K1),({c' with t:=c'.t}:Q0)))) (fun y=>Tg c y.2/\∃t,y.1=⟨1,[t],[],false,[],[],[],0⟩/\Dp (cx c) (6*wE x) t):=fun v c' h d=>Og.ok ⟨h,_,rfl,d⟩;have d1:=a1.2.mono (show 6*wE x-2<=6*wE x by omega);cases y1.1.lies with
 |false=>exact fin _ _ a1.1 d1
 |true=>
  rw[c1 (b:=true) rfl];obtain⟨b,hb⟩:=Z4d y1.2.t y1.1.n;refine Og.step hb ?_;cases b with
  |false=>exact fin _ _ a1.1 d1
  |true=>
   rw[c1 (b:=true) rfl];refine Og.bind (X3i a1.1.tab hx.pn a1.2) (fun y3 a3=>?_) (fun e he=>Og.err he);rw[a3.1.back];exact fin _ _ (a1.1.trans a3.1) (a3.2.mono (by omega))
theorem one_g{c:Q0}(hc:Ck c)(k:Int){x:Y8}(hx:OkX x):Og Ep (Q0k c k x) (fun y=>Tg c y.2/\∃t,y.1=⟨k,[t],[],false,[],[],[],0⟩/\Dp (cx c) (6*wE x) t):=by
 unfold Q0k;exact Og.bind (Y9o hc hx) (fun y1 a1=>Og.ok ⟨a1.1,_,rfl,a1.2⟩) (fun e he=>Og.err he)
structure Al(a:K1):Prop where
 A:a.A.length<=1000000000
 P:a.Post.length<=1000000000
 b:a.Body.length<=1000000000
 e:a.Else.length<=1000000000
 c:a.Cases.length<=1000000000
 cb:∀c∈a.Cases,c.Body.length<=1000000000
structure Ao(X:Cx)(a:K1):Prop where
 i:a.Kind=2\/a.Kind=4->1<=a.A.length
 n:a.Kind=9->0<=a.Var/\a.Var<(X.S:Int)
theorem Ao.mono{X Y:Cx}{a:K1}(h:Ao X a)(g:Clq X Y):Ao Y a:=⟨h.i,fun e=>by have:=h.n e;have:=g.l;omega⟩
theorem aok{P:Prop}(h:P:=by first|exact⟨fun e=>(by rcases e with e|e<;>cases e),fun e=>(by cases e)⟩|exact⟨fun e=>kN rfl,fun e=>(by cases e)⟩):P:=h
variable{X:Cx}
inductive Ad(X:Cx):Nat->K1->Prop
 |mk {n:Nat} {a:K1} (A:∀t∈a.A,Dp X 70000 t) (P:∀t∈a.Post,Dp X 70000 t) (b:∀x∈a.Body,Ad X n x) (e:∀x∈a.Else,Ad X n x) (c:∀c∈a.Cases,∀x∈c.Body,Ad X n x) (l:Al a) (fo:Ao X a):Ad X (n+1) a
theorem Ad.mono{n:Nat}{a:K1}(h:Ad X n a):∀{m:Nat},n<=m->Ad X m a:=by
 induction h with
 |@mk n a A P b e c l fo ib ie ic=>
  intro m hm;obtain⟨k,rfl⟩:∃k,m=k+1:=⟨m-1,by omega⟩;exact .mk A P (fun x hx=>ib x hx (by omega)) (fun x hx=>ie x hx (by omega)) (fun q hq x hx=>ic q hq x hx (by omega)) l fo
theorem Ad.up{Y:Cx}{n:Nat}{a:K1}(h:Ad X n a)(g:Clq X Y):Ad Y n a:=by
 induction h with
 |mk A P b e c l fo ib ie ic=>exact .mk (fun t ht=>(A t ht).up g) (fun t ht=>(P t ht).up g) ib ie ic l (fo.mono g)
theorem P5{α:Type}{p:α->Prop}:∀x∈([]:List α),p x:=fun x h=>by cases h
theorem Ad.flat{n:Nat}(hn:1<=n){k:Int}{A:List Y6}{f:Bool}{v:Int}(hA:∀t∈A,Dp X 70000 t)(hl:A.length<=1000000000:=by simp)(fo:Ao X ⟨k,A,[],f,[],[],[],v⟩:=by exact aok):Ad X n ⟨k,A,[],f,[],[],[],v⟩:=Ad.mono (n:=1) (.mk (n:=0) hA P5 P5 P5 (fun c h=>by cases h) ⟨hl,by simp,by simp,by simp,by simp,fun c h=>by cases h⟩ fo) hn
theorem answer_g{c:Q0}(hc:Ck c){f:G5}(hf:c.fun_= .some f){s:E5}(hp:Pn s.Pos)(hA:∀x∈s.A,OkX x):Og Ep (Q2p c s) (fun y=>Tg c y.2/\Ad (cx c) 1 y.1):=by
 unfold Q2p
 by_cases h0:s.A=[]
 . rw[c1 (by rw[h0];rfl)];refine Og.step (x:=f) (by rw[hf];rfl) ?_;cases(f.ret !=0)with
   |true=>rw[c1 (b:=true) rfl];exact Q0d hp (by decide)
   |false=>exact Og.ok ⟨Tg.refl hc.tab,Ad.flat (qD _) P5⟩
 . have hl:1<=s.A.length:=List.length_pos_iff.2 h0;rw[c0 (beq_eq_false_iff_ne.2 (by omega))];have hx:=hA s.A[0] (jT hl);have hw:=hx.w;have px:=Q4s s.A[0];refine Og.step (show idx s.A 0=some s.A[0]from C1 (k:=0) hl) ?_;refine Og.bind (Y2a hc hx) (fun y2 a2=>?_) (fun e he=>Og.err he);have hf2:y2.2.fun_= .some f:=by rw[a2.1.fun_eq];exact hf
   refine Og.step (x:=f) (by rw[hf2];rfl) ?_;cases(f.ret==0)with
   |true=>rw[c1 (b:=true) rfl];exact Q0d hx.pn (by decide)
   |false=>
    rw[c0 (b:=false) rfl];refine Og.bind (X2f (c:={y2.2 with fun_:=(O3.some f)}) a2.1.tab hx.pn (n:=6*wE s.A[0]) (by omega) a2.2 f.ret) (fun y4 a4=>?_) (fun e he=>Og.err he);exact Og.ok ⟨a2.1,Ad.flat (qD _) (fun t ht=>by rw[kQ.1 ht];exact a4.mono (by omega))⟩
theorem X3g{c:Q0}(h:Tab c.t){a b:Y6}{k:Int}{l:List K1}(ha:Dp X 69999 a)(hb:Dp X 69999 b)(hl:∀x∈l,Ad X 1 x)(hn:l.length<=1000000):∃r,I5 a b c k l=some r/\(∀x∈r,Ad X 1 x)/\r.length=l.length+1:=by
 unfold I5
 dsimp only[jn]
 obtain⟨p,hp⟩:=S4 h k;rw[Q6s,qV,hp,qV,B7 (by simp;omega),qV,C1 (show l.length<(l++[(⟨0,[],[],false,[],[],[],0⟩:K1)]).length by simp),qV];refine⟨_,rfl,fun x hx=>?_,by simp⟩
 rcases Y4j hx with hx|rfl
 . rcases jQ.1 hx with hx|hx
   . exact hl x hx
   . rw[kQ.1 hx];exact Ad.flat (qD _) P5
 . exact Ad.flat (qD _) (fun t ht=>by rw[kQ.1 ht];exact Dp.k2 rfl ha hb (by omega))
theorem St.step{a b c:Q0}(h:St a b)(g:Tg b c):St a c:=by
 obtain⟨f,f',h1,h2,h3⟩:=h.fn;exact h.trans (St.of h.ck g h2)
theorem len_any{t:Z7}(h:Tab t){n:Int}(h4:(tyT t n).1.Kind=4):(tyT t n).1.Len<=32768:=by
 unfold tyT at h4⊢;cases hx:idx t.list n with
 |none=>rw[hx]at h4;exact absurd h4 (by decide)
 |some x=>
  rw[hx]at h4
  have hm:x∈t.list:=by
   obtain⟨a,b,d⟩:=Q0i hx;exact jW d
  have hk:=h.k x hm;obtain⟨l1,e,he,he1,he2⟩:=hk.arr h4;have hs:=hk.sz
  dsimp only
  have h5:x.Type_.Len*1<=x.Type_.Len*e.size:=Int.mul_le_mul_of_nonneg_left he1 (by omega);omega
theorem X3f{c:Q0}(hc:Ck c){f:G5}(hf:c.fun_= .some f)(hs:1<=f.scopes.length){v:M7}(hv:OkV v)(hd:v.Dims.length<=5000)(hx:∀x∈v.Init,wE x<=10000)(hl:v.Init.length<=5000):Og Ep (Q0j c v) (fun y=>St c y.2/\(∀x∈y.1,Ad (cx y.2) 1 x)/\y.1.length<=40000):=by
 unfold Q0j
 dsimp only[jn]
 refine Og.bind (X4g hc.tab hv hd) (fun y1 a1=>?_) (fun e he=>Og.err he);rw[a1.1.back];have hf1:y1.2.fun_= .some f:=by rw[a1.1.fun_eq];exact hf
 refine Og.bind (Y9c (hc.tg a1.1) hf1 hs hv.pos v.Name y1.1) (fun y2 a2=>?_) (fun e he=>Og.err he);have st:=(St.of hc a1.1 hf).trans a2.1;have adv:No (cx y2.2) (⟨2,0,0,y2.1,false,0,false,true,[]⟩:Y6):=⟨kN rfl,fun _=>by rw[if_neg (fun e=>by cases e)];exact a2.2.2,fun e=>by cases e⟩;have tb:=st.ck.tab;refine Og.step (Y6k tb _) ?_;refine Og.step (Z6k tb _) ?_;refine Og.bind (X4l tb hv y1.1) (fun l hi=>?_) (fun e he=>Og.err he)
 have hll:l.length<=5000:=by
  rcases hi.1 with h|h
  . rw[h];simp
  . rw[h];exact hl
 have hox:∀x∈l,OkX x:=by
  intro x hm
  rcases hi.1 with h|h
  . rw[h]at hm;cases hm
  . rw[h]at hm;exact⟨hv.init x hm,hx x hm⟩
 have a9:∀x∈([(⟨9,[],[],false,[],[],[],y2.1⟩:K1)]:List K1),Ad (cx y2.2) 1 x:=fun x hx=>by rw[kQ.1 hx];exact Ad.flat (qD _) P5 (by simp) ⟨fun e=>(by rcases e with e|e<;>cases e),fun _=>a2.2.2⟩
 have dv:Dp (cx y2.2) 69998 (⟨2,0,0,y2.1,false,0,false,true,[]⟩:Y6):=Dp.k0 rfl (by decide) Q4t adv
 by_cases h0:l=[]
 . rw[c1 (by rw[h0];rfl)];exact Og.ok ⟨st,a9,by simp⟩
 have hl1:1<=l.length:=List.length_pos_iff.2 h0;rw[c0 (beq_eq_false_iff_ne.2 (by omega))]
 by_cases h4:(tyT y2.2.t y1.1).1.Kind=4
 . rw[c0 (by rw[h4];rfl)];have hlen:=len_any tb h4;refine Og.loop (fun s=>(0<=s.1/\s.1<=32768)/\(∀x∈s.2.1,Ad (cx y2.2) 1 x)/\(s.2.1.length:Int)=s.1+1/\St c {s.2.2.1 with t:=s.2.2.2}/\cx {s.2.2.1 with t:=s.2.2.2}=cx y2.2) (fun s=>40000-s.1.toNat) ⟨(by decide:(0:Int)<=0/\(0:Int)<=32768),a9,rfl,st,rfl⟩ (by dsimp only;omega) ?_;rintro⟨x11,x12,x13,x14⟩ ⟨i1,i2,i3,i4,i8⟩
   dsimp only at i1 i2 i3 i4 i8⊢
   by_cases hlt:x11<(tyT y2.2.t y1.1).1.Len
   . rw[c1 (dt hlt)];obtain⟨p,hp⟩:=S4 i4.ck.tab (paT y2.2.t y1.1);refine Rn.step hp ?_;have di:∀s q,Dp (cx y2.2) 69999 (⟨14,1,0,0,false,s,false,q,[(⟨2,0,0,y2.1,false,0,false,true,[]⟩:Y6),(⟨1,0,qJ .u32 x11,0,false,0,false,false,[]⟩:Y6)]⟩:Y6):=fun s q=>Dp.k2 (n:=1) rfl (Dp.k0 rfl (qD _) Q4t adv) (Dp.k0 rfl (qD _)) (by decide)
     by_cases hll2:x11<l.length
     . rw[c1 (dt hll2)];obtain⟨u,hu,hum⟩:=J2 ⟨i1.1,hll2⟩;have ou:=hox u hum;have how:=ou.w;have pu:=Q4s u;refine Rn.step hu ?_;refine Rn.step hu ?_;refine Rn.bindG (Y2a i4.ck ou) (fun y10 a10=>?_) (fun e he=>Rn.ok (Og.err he));rw[i8]at a10;refine Rn.bindG (Z7j a10.1.tab ou.pn (n:=6*wE u) (by omega) a10.2 _) (fun y11 a11=>?_) (fun e he=>Rn.ok (Og.err he));have st2:=i4.step a10.1;obtain⟨s,q,hq⟩:=Y2e (c:=y10.2) st2.ck.tab (⟨2,0,0,y2.1,false,0,false,true,[]⟩:Y6) (⟨1,0,qJ .u32 x11,0,false,0,false,false,[]⟩:Y6) (paT y2.2.t y1.1) 1;refine Rn.step hq ?_;obtain⟨r,hr,hr2,hr3⟩:=X3g (c:=y10.2) (k:=paT y2.2.t y1.1) st2.ck.tab (di s q) (a11.mono (show 6*wE u<=69999 by omega)) i2 (by omega);refine Rn.step hr ?_;exact Rn.ok ⟨⟨by dsimp only;rw[w64 (by omega)];omega,hr2,by dsimp only;rw[w64 (by omega),hr3];omega,st2,by rw[<-i8];exact a10.1.cx⟩,by dsimp only;rw[w64 (by omega)];omega⟩
     . rw[c0 (df hll2)];obtain⟨s,q,hq⟩:=Y2e (c:={x13 with t:=x14}) i4.ck.tab (⟨2,0,0,y2.1,false,0,false,true,[]⟩:Y6) (⟨1,0,qJ .u32 x11,0,false,0,false,false,[]⟩:Y6) (paT y2.2.t y1.1) 1;refine Rn.step hq ?_;obtain⟨r,hr,hr2,hr3⟩:=X3g (c:={x13 with t:=x14}) (k:=paT y2.2.t y1.1) (b:=(⟨1,0,0,0,false,0,false,p,[]⟩:Y6)) i4.ck.tab (di s q) (Dp.k0 rfl (by decide)) i2 (by omega);refine Rn.step hr ?_;exact Rn.ok ⟨⟨by dsimp only;rw[w64 (by omega)];omega,hr2,by dsimp only;rw[w64 (by omega),hr3];omega,i4,i8⟩,by dsimp only;rw[w64 (by omega)];omega⟩
   . rw[c0 (df hlt)];exact Rn.ok (Og.ok ⟨i4,by dsimp only;rw[i8];exact i2,by dsimp only;omega⟩)
 . rw[c1 (by simpa using h4)];have hxx:=hox l[0] (jT hl1);have hw:=hxx.w;have px:=Q4s l[0];have hid:idx l 0=some l[0]:=C1 (k:=0) hl1;refine Og.step hid ?_;refine Og.step hid ?_;refine Og.bind (Y2a st.ck hxx) (fun y6 a6=>?_) (fun e he=>Og.err he);refine Og.bind (Z7j a6.1.tab hxx.pn (n:=6*wE l[0]) (by omega) a6.2 y1.1) (fun y7 a7=>?_) (fun e he=>Og.err he);obtain⟨r,hr,hr2,hr3⟩:=X3g (a:=(⟨2,0,0,y2.1,false,0,false,true,[]⟩:Y6)) (b:=y7) (k:=paT y2.2.t y1.1) a6.1.tab (dv.mono (by decide)) (a7.mono (by omega)) a9 (by simp);exact Og.step hr (Og.ok ⟨st.step a6.1,by dsimp only;rw[a6.1.cx];exact hr2,by rw[hr3];simp⟩)
structure OkY(x:E5):Prop where
 s:OkS x
 w:wS x<=5000
def QA(c:Q0)(n:Nat)(y:List K1×Q0):Prop:=St c y.2/\(∀x∈y.1,Ad (cx y.2) n x)/\y.1.length<=40000*n
def Sc(c:Q0)(k:Nat):Prop:=∃f,c.fun_= .some f/\1<=f.scopes.length/\f.scopes.length+k<=90000
theorem St.refl{c:Q0}(h:Ck c){f:G5}(hf:c.fun_= .some f):St c c:=St.of h (Tg.refl h.tab) hf
theorem Sc.st{c c':Q0}{k:Nat}(h:Sc c k)(g:St c c'):Sc c' k:=by
 obtain⟨f,hf,h1,h2⟩:=h;obtain⟨a,b,ha,hb,hl⟩:=g.fn;rw[hf]at ha;cases ha;exact⟨b,hb,by omega,by omega⟩
theorem block_st{c c':Q0}{f f':G5}(hf:c.fun_= .some f)(g:St {c with fun_:=(O3.some ({f with scopes:=f.scopes++[(some [])]}))} c')(hf':c'.fun_= .some f'){s:List (Option (List (List UInt8×Int)))}(hs:s=f'.scopes.take (f'.scopes.length-1))(hl:f'.scopes.length=f.scopes.length+1):St c {c' with fun_:=(O3.some ({f' with scopes:=s}))}:=by
 have hk:=g.ck;have hfn:=hk.fn;rw[hf']at hfn;have hfn:Fn f':=hfn;refine⟨?_,⟨hk.tab,hk.gl,hk.co,?_,hk.gn,hk.cn,hk.ug,hk.uc,hk.lg,hk.lc⟩,g.gr,⟨f,_,hf,rfl,by dsimp only;rw[hs,qE];omega⟩,by rw[hf];have:=g.sl;rw[hf']at this;exact this⟩
 . have e:=g.eq
   dsimp only
   rw[e]
 . change Fn _
   refine⟨hfn.ty,hfn.le,fun m hm=>?_,by dsimp only;rw[hs,qE];have:=hfn.sl;omega⟩
   dsimp only at hm
   rw[hs]at hm;exact hfn.sc m (List.mem_of_mem_take hm)
theorem Ck.scope{c:Q0}(h:Ck c){f:G5}(hf:c.fun_= .some f)(hl:f.scopes.length+1<=90000):Ck {c with fun_:=(O3.some ({f with scopes:=f.scopes++[(some [])]}))}:=by
 have hfn:=h.fn;rw[hf]at hfn;have hfn:Fn f:=hfn;refine⟨h.tab,h.gl,h.co,?_,h.gn,h.cn,h.ug,h.uc,h.lg,h.lc⟩
 change Fn _
 refine⟨hfn.ty,hfn.le,fun m hm=>?_,by simp;omega⟩
 rcases jQ.1 hm with hm|hm
 . exact hfn.sc m hm
 . rw[kQ.1 hm];exact⟨[],rfl,fun a b hb=>by cases hb⟩
theorem Ck.loops{c:Q0}(h:Ck c){f:G5}(hf:c.fun_= .some f)(a b:Int):Ck {c with fun_:=(O3.some ({f with loops:=a,breaks:=b}))}:=by
 have hfn:=h.fn;rw[hf]at hfn;have hfn:Fn f:=hfn;exact⟨h.tab,h.gl,h.co,(⟨hfn.ty,hfn.le,hfn.sc,hfn.sl⟩:Fn {f with loops:=a,breaks:=b}),h.gn,h.cn,h.ug,h.uc,h.lg,h.lc⟩
theorem Z4b{α:Type}(w:α->Nat){l:List α}{x:α}(h:x∈l):w x<=sm w l:=by
 obtain⟨s,t,e⟩:=List.append_of_mem h;rw[e,Q2w,Z0f];omega
theorem sm_take{α:Type}(w:α->Nat){l:List α}{k:Nat}(h:k<l.length):sm w (l.take (k+1))=sm w (l.take k)+w l[k]:=by
 rw[List.take_succ_eq_append_getElem h,Q2w,Z0f]
 simp[sm]
theorem Y6w{α:Type}(w:α->Nat)(l:List α)(k:Nat):sm w (l.take k)<=sm w l:=by
 have:=Q2w w (l.take k) (l.drop k);rw[List.take_append_drop]at this;omega
theorem X5a{α:Type}{b:List α}{n:Nat}(h:n<=b.length):sub b 0 (n:Int)=some (b.take n):=by
 unfold sub;rw[if_pos (by omega)]
 simp
theorem OkY.A{x:E5}(h:OkY x):∀y∈x.A,OkX y:=fun y hy=>⟨match h.s with| .mk a _ _ _ _ _ _ _ _ _=>a y hy,by have:=Z4b wE hy;have:=Y2t x;have:=h.w;omega⟩
theorem OkY.B{x:E5}(h:OkY x):∀y∈x.B,OkX y:=fun y hy=>⟨match h.s with| .mk _ a _ _ _ _ _ _ _ _=>a y hy,by have:=Z4b wE hy;have:=Y2t x;have:=h.w;omega⟩
theorem OkY.C{x:E5}(h:OkY x):∀y∈x.C,OkX y:=fun y hy=>⟨match h.s with| .mk _ _ a _ _ _ _ _ _ _=>a y hy,by have:=Z4b wE hy;have:=Y2t x;have:=h.w;omega⟩
theorem OkY.V{x:E5}(h:OkY x):∀y∈x.Var,OkV y/\y.Dims.length<=5000/\(∀z∈y.Init,wE z<=10000)/\y.Init.length<=5000:=fun y hy=>by
 have h1:=Z4b wV hy
 have h2:=Y2t x
 have h3:=h.w
 have h5:wV y=1+y.Type_.Stars.toNat+y.Dims.length+sm wE y.Init:=rfl
 have h4:=Q3l Q4s y.Init
 exact⟨match h.s with| .mk _ _ _ a _ _ _ _ _ _=>a y hy,by omega,fun z hz=>by have:=Z4b wE hz;omega,by omega⟩
theorem OkY.body{x:E5}(h:OkY x):∀y∈x.Body,OkS y:=match h.s with| .mk _ _ _ _ a _ _ _ _ _=>a
theorem OkY.els{x:E5}(h:OkY x):∀y∈x.Else,OkS y:=match h.s with| .mk _ _ _ _ _ a _ _ _ _=>a
theorem OkY.cases{x:E5}(h:OkY x):∀c∈x.Cases,(∀y∈c.Body,OkS y)/\Pn c.Pos:=fun c hc=>⟨match h.s with| .mk _ _ _ _ _ _ a _ _ _=>a c hc,match h.s with| .mk _ _ _ _ _ _ _ _ _ a=>a c hc⟩
theorem OkY.pn{x:E5}(h:OkY x):Pn x.Pos:=match h.s with| .mk _ _ _ _ _ _ _ a _ _=>a
theorem OkY.sa{x:E5}(h:OkY x):Sa x.Kind x.A.length x.Var.length:=match h.s with| .mk _ _ _ _ _ _ _ _ a _=>a
theorem Sc.mono{c:Q0}{j k:Nat}(h:Sc c j)(hk:k<=j):Sc c k:=by
 obtain⟨f,a,b,d⟩:=h;exact⟨f,a,b,by omega⟩
theorem St.loops{c c':Q0}{f f':G5}(hf:c.fun_= .some f){a b:Int}(g:St {c with fun_:=(O3.some ({f with loops:=a,breaks:=b}))} c')(hf':c'.fun_= .some f')(a' b':Int):St c {c' with fun_:=(O3.some ({f' with loops:=a',breaks:=b'}))}:=by
 obtain⟨k,k',h1,h2,h3⟩:=g.fn;cases h1;rw[hf']at h2;cases h2;refine⟨?_,g.ck.loops hf' a' b',g.gr,⟨f,_,hf,rfl,h3⟩,by rw[hf];have:=g.sl;rw[hf']at this;exact this⟩;have e:=g.eq
 dsimp only
 rw[e]
theorem X3z{c:Q0}{g f:G5}(h:c.fun_= .some g)(hs:g.slots.length<=f.slots.length):Clq (cx c) (cx {c with fun_:= .some f}):=⟨rfl,rfl,by show slo c.fun_<=_;rw[h];exact hs⟩
structure S6(n:Nat):Prop where
 block:∀c l,Ck c->(∀y∈l,OkS y)->sm wS l<=5000->Sc c (sm wS l+1)->5*sm wS l+3<=n->Og Ep ((Z1w n).U0 c l) (QA c (2*sm wS l))
 looped:∀c l,Ck c->(∀y∈l,OkS y)->sm wS l<=5000->Sc c (sm wS l+1)->5*sm wS l+4<=n->Og Ep ((Z1w n).G0 c l) (QA c (2*sm wS l))
 around:∀c x,Ck c->OkY x->Sc c (wS x)->5*wS x<=n->Og Ep ((Z1w n).N6 c x) (QA c (2*wS x-1))
 choose:∀c x,Ck c->OkY x->Sc c (wS x)->1<=x.A.length->5*wS x<=n->Og Ep ((Z1w n).N5 c x) (fun y=>St c y.2/\Ad (cx y.2) (2*wS x-1) y.1)
 stmt:∀c x,Ck c->OkY x->Sc c (wS x)->5*wS x+1<=n->Og Ep ((Z1w n).C9 c x) (QA c (2*wS x))
 acts:∀c l,Ck c->(∀y∈l,OkS y)->sm wS l<=5000->Sc c (sm wS l)->5*sm wS l+2<=n->Og Ep ((Z1w n).E9 c l) (QA c (2*sm wS l))
theorem block_s6{n:Nat}(h:S6 n):∀c l,Ck c->(∀y∈l,OkS y)->sm wS l<=5000->Sc c (sm wS l+1)->5*sm wS l+3<=n+1->Og Ep ((Z1w (n+1)).U0 c l) (QA c (2*sm wS l)):=by
 intro c l hc hl hw hs hn;show Og Ep (Q1n (Z1w n) c l) _;unfold Q1n;obtain⟨f,hf,h1,h2⟩:=hs;refine Og.step (x:=f) (by rw[hf];rfl) ?_;refine Og.step (B7 (by omega)) ?_;refine Og.bind (h.acts _ l (hc.scope hf (by omega)) hl hw ⟨_,rfl,by simp,by simp;omega⟩ (by omega)) (fun y a=>?_) (fun e he=>Og.err he);obtain⟨a1,a2,a3⟩:=a;obtain⟨g,g',e1,e2,e3⟩:=a1.fn;cases e1;refine Og.step (x:=g') (by rw[e2];rfl) ?_;rw[qW,qG]at e3;refine Og.step (x:=g'.scopes.take (g'.scopes.length-1)) (by rw[w64 (by omega),show((g'.scopes.length:Int)-1)=((g'.scopes.length-1:Nat):Int) by omega];exact X5a (by omega)) ?_;exact Og.ok ⟨block_st hf a1 e2 rfl e3,fun x hx=>(a2 x hx).up (X3z e2 (qD _)),a3⟩
theorem X5n{n:Nat}(h:S6 n):∀c l,Ck c->(∀y∈l,OkS y)->sm wS l<=5000->Sc c (sm wS l+1)->5*sm wS l+4<=n+1->Og Ep ((Z1w (n+1)).G0 c l) (QA c (2*sm wS l)):=by
 intro c l hc hl hw hs hn;show Og Ep (Q0n (Z1w n) c l) _;unfold Q0n;obtain⟨f,hf,h1,h2⟩:=hs;refine Og.step (x:=f) (by rw[hf];rfl) ?_;refine Og.bind (h.block _ l (hc.loops hf _ _) hl hw ⟨_,rfl,h1,h2⟩ (by omega)) (fun y a=>?_) (fun e he=>Og.err he);obtain⟨a1,a2,a3⟩:=a;obtain⟨g,g',e1,e2,e3⟩:=a1.fn;refine Og.step (x:=g') (by rw[e2];rfl) ?_;exact Og.ok ⟨St.loops hf a1 e2 _ _,fun x hx=>(a2 x hx).up (X3z e2 (qD _)),a3⟩
theorem acts_s6{n:Nat}(h:S6 n):∀c l,Ck c->(∀y∈l,OkS y)->sm wS l<=5000->Sc c (sm wS l)->5*sm wS l+2<=n+1->Og Ep ((Z1w (n+1)).E9 c l) (QA c (2*sm wS l)):=by
 intro c l hc hl hw hs hn;show Og Ep (Q2q (Z1w n) c l) _;unfold Q2q;have hll:=Q3l Y0r l;obtain⟨f,hf,_⟩:=id hs;refine Og.loop (fun s=>0<=s.2.1/\s.2.1<=l.length/\(∀x∈s.1,Ad (cx {s.2.2.1 with t:=s.2.2.2}) (2*sm wS l) x)/\s.1.length<=80000*sm wS (l.take s.2.1.toNat)/\St c {s.2.2.1 with t:=s.2.2.2}) (fun s=>l.length-s.2.1.toNat) ⟨qC 0,by dsimp only;omega,P5,by simp,St.refl hc hf⟩ (by dsimp only;omega) ?_;rintro⟨x1,x11,x12,x13⟩ ⟨i1,i2,i3,i4,i5⟩
 dsimp only at i1 i2 i3 i4 i5⊢
 obtain⟨k,rfl⟩:=jR i1;rw[Int.toNat_natCast]at i4
 by_cases hlt:k<l.length
 . rw[c1 (dlt hlt)];have hm:=jT hlt;have h1:=Z4b wS hm;have h2:=sm_take wS hlt;have h3:=Y6w wS l (k+1);refine Rn.step (C1 hlt) ?_;refine Rn.bindG (h.stmt _ l[k] i5.ck ⟨hl _ hm,by omega⟩ (Sc.st (Sc.mono hs h1) i5) (by omega)) (fun y a=>?_) (fun e he=>Rn.ok (Og.err he));obtain⟨a1,a2,a3⟩:=a;refine Rn.step (B7 (by omega)) ?_;refine Rn.ok ⟨⟨by dsimp only;rw[w64 (by omega)];omega,by dsimp only;rw[w64 (by omega)];omega,fun x hx=>?_,?_,i5.trans a1⟩,by dsimp only;rw[w64 (by omega)];omega⟩
   . rcases jQ.1 hx with hx|hx
     . exact(i3 x hx).up a1.cl
     . exact(a2 x hx).mono (by omega)
   . dsimp only
     rw[w64 (by omega),show((k:Int)+1)=((k+1:Nat):Int) by omega,Int.toNat_natCast,h2,qW];omega
 . rw[c0 (df (by omega))];have h3:=Y6w wS l k;exact Rn.ok (Og.ok ⟨i5,i3,by dsimp only;omega⟩)
structure Fa(X:Cx)(a:K1):Prop where
 A:∀t∈a.A,Dp X 70000 t
 P:∀t∈a.Post,Dp X 70000 t
 k:a.Kind=3
 b:a.Body=[]
 e:a.Else=[]
 c:a.Cases=[]
 l:a.Post.length<=1
theorem Ao.of{X:Cx}{a:K1}{k:Int}(hk:a.Kind=k)(h2:k≠2)(h4:k≠4)(h9:k≠9):Ao X a:=⟨fun e=>by rw[hk]at e;rcases e with e|e<;>contradiction,fun e=>absurd (hk.symm.trans e) h9⟩
theorem X6j{n:Nat}(h:S6 n):∀c x,Ck c->OkY x->Sc c (wS x)->5*wS x<=n+1->Og Ep ((Z1w (n+1)).N6 c x) (QA c (2*wS x-1)):=by
 intro c x hc hx hs hn;show Og Ep (Q0t (Z1w n) c x) _;unfold Q0t;have hw:=Y2t x;have hww:=hx.w;have lA:=Q3l Q4s x.A;have lB:=Q3l Q4s x.B;have lC:=Q3l Q4s x.C;obtain⟨f,hf,_⟩:=id hs;refine Og.loop (fun s=>0<=s.2.1/\s.2.1<=x.A.length/\(∀y∈s.1,Ad (cx c) 1 y)/\s.1.length<=s.2.1/\Tg c {s.2.2.1 with t:=s.2.2.2}) (fun s=>x.A.length-s.2.1.toNat) ⟨qC 0,by dsimp only;omega,P5,by simp,Tg.refl hc.tab⟩ (by dsimp only;omega) ?_;rintro⟨x1,x11,x12,x13⟩ ⟨i1,i2,i3,i4,i5⟩
 dsimp only at i1 i2 i3 i4 i5⊢
 by_cases hlt:x11<x.A.length
 . rw[c1 (dt hlt)];obtain⟨u,hu,hum⟩:=J2 ⟨i1,hlt⟩;have ou:=hx.A u hum;have uw:=ou.w;refine Rn.step hu ?_;refine Rn.bindG (X0y (hc.tg i5) ou) (fun y a=>?_) (fun e he=>Rn.ok (Og.err he));obtain⟨a1,t,a2,a3⟩:=a;rw[i5.cx]at a3;refine Rn.step (B7 (by simp;omega)) ?_;refine Rn.ok ⟨⟨by dsimp only;rw[w64 (by omega)];omega,by dsimp only;rw[w64 (by omega)];omega,fun z hz=>?_,by dsimp only;rw[w64 (by omega),qW];simp;omega,i5.trans a1⟩,by dsimp only;rw[w64 (by omega)];omega⟩
   rcases jQ.1 hz with hz|hz
   . exact i3 z hz
   . rw[kQ.1 hz,a2];exact Ad.flat (qD _) (fun t ht=>by rw[kQ.1 ht];exact a3.mono (by omega))
 rw[c0 (df hlt)];refine Rn.ok ?_;show Og Ep ((X5 _ NN _).bind _) _
 clear hlt
 refine Og.loop (fun s=>0<=s.1/\s.1<=x.B.length/\Fa (cx c) s.2.1/\s.2.1.A.length<=s.1/\Tg c {s.2.2.1 with t:=s.2.2.2}) (fun s=>x.B.length-s.1.toNat) ⟨qC 0,by dsimp only;omega,⟨P5,P5,rfl,rfl,rfl,rfl,by simp⟩,by simp,i5⟩ (by dsimp only;omega) ?_
 clear i5
 rintro⟨x24,x25,x26,x27⟩ ⟨j1,j2,j3,j4,j5⟩
 dsimp only at j1 j2 j3 j4 j5⊢
 by_cases hlt:x24<x.B.length
 . rw[c1 (dt hlt)];obtain⟨u,hu,hum⟩:=J2 ⟨j1,hlt⟩;have ou:=hx.B u hum;have uw:=ou.w;refine Rn.step hu ?_;refine Rn.bindG (Y9o (hc.tg j5) ou) (fun y a=>?_) (fun e he=>Rn.ok (Og.err he));rw[j5.cx]at a;refine Rn.step (B7 (by simp;omega)) ?_;refine Rn.ok ⟨⟨by dsimp only;rw[w64 (by omega)];omega,by dsimp only;rw[w64 (by omega)];omega,⟨fun z hz=>?_,j3.P,j3.k,j3.b,j3.e,j3.c,j3.l⟩,by dsimp only;rw[w64 (by omega),qW];simp;omega,j5.trans a.1⟩,by dsimp only;rw[w64 (by omega)];omega⟩
   rcases jQ.1 hz with hz|hz
   . exact j3.A z hz
   . rw[kQ.1 hz];exact a.2.mono (by omega)
 rw[c0 (df hlt)];refine Rn.ok ?_;show Og Ep ((X5 _ NN _).bind _) _
 clear hlt
 refine Og.loop (fun s=>0<=s.1/\s.1<=x.C.length/\(Fa (cx c) s.2.1/\s.2.1.A.length<=5000)/\Tg c {s.2.2.1 with t:=s.2.2.2}) (fun s=>x.C.length-s.1.toNat) ⟨qC 0,by dsimp only;omega,⟨j3,by dsimp only;omega⟩,j5⟩ (by dsimp only;omega) ?_
 clear j5 j3 j4
 rintro⟨x38,x39,x40,x41⟩ ⟨k1,k2,⟨k3,k4⟩,k5⟩
 dsimp only at k1 k2 k3 k4 k5⊢
 by_cases hlt:x38<x.C.length
 . rw[c1 (dt hlt)];obtain⟨u,hu,hum⟩:=J2 ⟨k1,hlt⟩;have ou:=hx.C u hum;have uw:=ou.w;refine Rn.step hu ?_;refine Rn.bindG (X0y (hc.tg k5) ou) (fun y a=>?_) (fun e he=>Rn.ok (Og.err he));obtain⟨a1,t,a2,a3⟩:=a;rw[k5.cx]at a3;refine Rn.ok ⟨⟨by dsimp only;rw[w64 (by omega)];omega,by dsimp only;rw[w64 (by omega)];omega,⟨⟨k3.A,fun z hz=>?_,k3.k,k3.b,k3.e,k3.c,by dsimp only;rw[a2];simp⟩,k4⟩,k5.trans a1⟩,by dsimp only;rw[w64 (by omega)];omega⟩
   dsimp only at hz
   rw[a2,kQ]at hz;rw[hz];exact a3.mono (by omega)
 rw[c0 (df hlt)];refine Rn.ok ?_;show Og Ep (((Z1w n).G0 _ _).bind _) _;have st:=St.of hc k5 hf;refine Og.bind (h.looped _ x.Body st.ck hx.body (by omega) (Sc.mono (Sc.st hs st) (by omega)) (by omega)) (fun y a=>?_) (fun e he=>Og.err he);obtain⟨a1,a2,a3⟩:=a;refine Og.step (B7 (by simp;omega)) ?_;refine Og.ok ⟨st.trans a1,fun z hz=>?_,by simp;omega⟩
 rcases jQ.1 hz with hz|hz
 . exact((i3 z hz).mono (by omega)).up (st.trans a1).cl
 . rw[kQ.1 hz];exact Ad.mono (n:=2*sm wS x.Body+1) (.mk (n:=2*sm wS x.Body) (a:={x39 with Body:=y.1}) (fun t ht=>(k3.A t ht).up (st.trans a1).cl) (fun t ht=>(k3.P t ht).up (st.trans a1).cl) a2 (by dsimp only;rw[k3.e];exact P5) (by dsimp only;rw[k3.c];exact P5) ⟨by dsimp only;omega,by have:=k3.l;dsimp only;omega,by dsimp only;omega,by dsimp only;rw[k3.e];simp,by dsimp only;rw[k3.c];simp,by dsimp only;rw[k3.c];exact P5⟩ (Ao.of k3.k (by decide) (by decide) (by decide))) (by omega)
theorem X5z{n:Nat}(h:S6 n):∀c x,Ck c->OkY x->Sc c (wS x)->1<=x.A.length->5*wS x<=n+1->Og Ep ((Z1w (n+1)).N5 c x) (fun y=>St c y.2/\Ad (cx y.2) (2*wS x-1) y.1):=by
 intro c x hc hx hs hA hn;show Og Ep (Q0p (Z1w n) c x) _;unfold Q0p
 dsimp only[jn]
 have hw:=Y2t x;have hww:=hx.w;have lC:=Q3l wC_pos x.Cases;obtain⟨f,hf,hs1,hs2⟩:=id hs;have ou:=hx.A x.A[0] (jT hA);have uw:=ou.w;refine Og.step (show idx x.A 0=some x.A[0]from C1 (k:=0) hA) ?_;refine Og.bind (X3t hc ou) (fun y a=>?_) (fun e he=>Og.err he);have hfy:y.2.fun_= .some f:=by rw[a.1.fun_eq];exact hf
 refine Og.step (x:=f) (by rw[hfy];rfl) ?_;have ck1:Ck {y.2 with fun_:=(O3.some ({f with breaks:=qJ .i64 (f.breaks+1)}))}:=(hc.tg a.1).loops hfy f.loops _;have st0:=St.of hc a.1 hf;refine Og.loop (fun s=>0<=s.2.2.1/\s.2.2.1<=x.Cases.length/\(∃m,s.1=some m)/\((∀t∈s.2.2.2.1.A,Dp (cx c) 70000 t)/\(s.2.2.2.1.A.length=1/\s.2.2.2.1.Kind=4)/\s.2.2.2.1.Post=[]/\s.2.2.2.1.Body=[]/\s.2.2.2.1.Else=[])/\(∀q∈s.2.2.2.1.Cases,(∀z∈q.Body,Ad (cx {s.2.2.2.2.1 with t:=s.2.2.2.2.2}) (2*wS x-2) z)/\q.Body.length<=1000000000)/\s.2.2.2.1.Cases.length<=s.2.2.1/\St {y.2 with fun_:=(O3.some ({f with breaks:=qJ .i64 (f.breaks+1)}))} {s.2.2.2.2.1 with t:=s.2.2.2.2.2}) (fun s=>x.Cases.length-s.2.2.1.toNat) ⟨qC 0,by dsimp only;omega,⟨_,rfl⟩,⟨fun t ht=>by rw[kQ.1 ht];exact a.2.mono (by omega),⟨rfl,rfl⟩,rfl,rfl,rfl⟩,P5,by simp,St.refl ck1 rfl⟩ (by dsimp only;omega) ?_;rintro⟨x2,x13,x14,x15,x16,x17⟩ ⟨i1,i2,⟨m,i3⟩,i4,i5,i6,i7⟩
 dsimp only at i1 i2 i3 i4 i5 i6 i7⊢
 subst i3
 by_cases hlt:x14<x.Cases.length
 . rw[c1 (dt hlt)];obtain⟨u,hu,hum⟩:=J2 ⟨i1,hlt⟩;have oc:=hx.cases u hum;have wc:=Z4b wC hum;have wc2:wC u=1+sm wS u.Body:=rfl;refine Rn.step hu ?_
   have go:∀(m':List (Int×Bool))(b:Bool),Rn (((Z1w n).U0 {x16 with t:=x17} u.Body).bind fun y4=>exL y4 (fun y4=>(L1 (qQ x15.Cases+qQ ([{u with Body:=y4.1}]:List Z4l))).bind fun _=>some (Lp.go (some m',b,qJ .i64 (x14+1),{x15 with Cases:=x15.Cases++([{u with Body:=y4.1}]:List Z4l)},y4.2,y4.2.t)))) (NxG (fun s=>0<=s.2.2.1/\s.2.2.1<=x.Cases.length/\(∃m,s.1=some m)/\((∀t∈s.2.2.2.1.A,Dp (cx c) 70000 t)/\(s.2.2.2.1.A.length=1/\s.2.2.2.1.Kind=4)/\s.2.2.2.1.Post=[]/\s.2.2.2.1.Body=[]/\s.2.2.2.1.Else=[])/\(∀q∈s.2.2.2.1.Cases,(∀z∈q.Body,Ad (cx {s.2.2.2.2.1 with t:=s.2.2.2.2.2}) (2*wS x-2) z)/\q.Body.length<=1000000000)/\s.2.2.2.1.Cases.length<=s.2.2.1/\St {y.2 with fun_:=(O3.some ({f with breaks:=qJ .i64 (f.breaks+1)}))} {s.2.2.2.2.1 with t:=s.2.2.2.2.2}) (fun s=>x.Cases.length-s.2.2.1.toNat) (some m,x13,x14,x15,x16,x17) (fun o=>o.thn (fun(x2,x13,x14,x15,x16,x17)=>(O3.get x16.fun_).bind fun u10=>some (qX (x15,{x16 with t:=x17,fun_:=(O3.some ({u10 with breaks:=qJ .i64 (u10.breaks-1)}))}))) (fun r=>some r)) Ep (fun y=>St c y.2/\Ad (cx y.2) (2*wS x-1) y.1)):=by
    intro m' b;refine Rn.bindG (h.block _ u.Body i7.ck oc.1 (by omega) (Sc.mono (Sc.st (k:=wS x) ⟨{f with breaks:=qJ .i64 (f.breaks+1)},rfl,hs1,hs2⟩ i7) (by omega)) (by omega)) (fun y4 a4=>?_) (fun e he=>Rn.ok (Og.err he));obtain⟨a1,a2,a3⟩:=a4;refine Rn.step (B7 (by simp;omega)) ?_;refine Rn.ok ⟨⟨by dsimp only;rw[w64 (by omega)];omega,by dsimp only;rw[w64 (by omega)];omega,⟨_,rfl⟩,i4,fun q hq=>?_,by dsimp only;rw[w64 (by omega),qW];simp;omega,i7.trans a1⟩,by dsimp only;rw[w64 (by omega)];omega⟩
    rcases jQ.1 hq with hq|hq
    . exact⟨fun z hz=>((i5 q hq).1 z hz).up a1.cl,(i5 q hq).2⟩
    . rw[kQ.1 hq];exact⟨fun z hz=>(a2 z hz).mono (by omega),by dsimp only;omega⟩
   have er:∀{B:Type}(g:Unit->Option (Lp _ (Except (Z4×Q0) (K1×Q0)))),Rn ((X0 u.Pos 6).bind fun y5=>exC y5 g (fun e4=>some (Lp.ret (qK (e4,{x16 with t:=x17}))))) (NxG (S:=Option (List (Int×Bool))×Bool×Int×K1×Q0×Z7) (fun s=>0<=s.2.2.1/\s.2.2.1<=x.Cases.length/\(∃m,s.1=some m)/\((∀t∈s.2.2.2.1.A,Dp (cx c) 70000 t)/\(s.2.2.2.1.A.length=1/\s.2.2.2.1.Kind=4)/\s.2.2.2.1.Post=[]/\s.2.2.2.1.Body=[]/\s.2.2.2.1.Else=[])/\(∀q∈s.2.2.2.1.Cases,(∀z∈q.Body,Ad (cx {s.2.2.2.2.1 with t:=s.2.2.2.2.2}) (2*wS x-2) z)/\q.Body.length<=1000000000)/\s.2.2.2.1.Cases.length<=s.2.2.1/\St {y.2 with fun_:=(O3.some ({f with breaks:=qJ .i64 (f.breaks+1)}))} {s.2.2.2.2.1 with t:=s.2.2.2.2.2}) (fun s=>x.Cases.length-s.2.2.1.toNat) (some m,x13,x14,x15,x16,x17) (fun o=>o.thn (fun(x2,x13,x14,x15,x16,x17)=>(O3.get x16.fun_).bind fun u10=>some (qX (x15,{x16 with t:=x17,fun_:=(O3.some ({u10 with breaks:=qJ .i64 (u10.breaks-1)}))}))) (fun r=>some r)) Ep (fun y=>St c y.2/\Ad (cx y.2) (2*wS x-1) y.1)):=fun g=>fail_l oc.2 (by decide) (fun e he=>Og.err he);have er:=@er Unit;cases hd:u.Default with
   |true=>
    simp only[hd]at go
    cases x13 with
    |true=>rw[c1 (b:=(true&&true)) rfl];exact er _
    |false=>rw[c0 (b:=(true&&false)) rfl,c0 (b:=!true) rfl,c1 (b:=true) rfl];exact go m true
   |false=>
    simp only[hd]at go
    rw[c0 (b:=(false&&x13)) rfl,c1 (b:=!false) rfl];cases(D3 (some m) u.Num).getD false with
    |true=>rw[c1 (b:=true) rfl];exact er _
    |false=>
     rw[c0 (b:=false) rfl,c0 (b:=false) rfl];exact Rn.step (x:=m) rfl (go _ x13)
 . rw[c0 (df hlt)];refine Rn.ok ?_;obtain⟨k,k',e1,e2,e3⟩:=i7.fn;cases e1;show Og Ep ((O3.get x16.fun_).bind _) _
   dsimp only at e2
   refine Og.step (x:=k') (by rw[e2];rfl) ?_;have sf:=st0.trans (St.loops hfy (a:=f.loops) i7 e2 k'.loops (qJ .i64 (k'.breaks-1)));refine Og.ok ⟨sf,?_⟩;have e:2*wS x-1=(2*wS x-2)+1:=by omega
   rw[e];obtain⟨j1,j2,j3,j4,j5⟩:=i4;exact .mk (fun t ht=>(j1 t ht).up sf.cl) (by rw[j3];exact P5) (by rw[j4];exact P5) (by rw[j5];exact P5) (fun q hq z hz=>((i5 q hq).1 z hz).up (X3z (c:={x16 with t:=x17}) e2 (qD _))) ⟨by dsimp only;omega,by rw[j3];simp,by rw[j4];simp,by rw[j5];simp,by dsimp only;omega,fun q hq=>(i5 q hq).2⟩ ⟨fun _=>by rw[j2.1];exact qD 1,fun e=>absurd (j2.2.symm.trans e) (by decide)⟩
theorem QA.one{c c':Q0}{n:Nat}{a:K1}(h:St c c')(ha:Ad (cx c') n a)(hn:1<=n):QA c n ([a],c'):=⟨h,fun x hx=>by rw[kQ.1 hx];exact ha,by simp;omega⟩
theorem at0{α:Type}{l:List α}(h:1<=l.length):∃y,idx l 0=some y/\y∈l:=⟨l[0],C1 (k:=0) h,jT h⟩
theorem stmt_s6{n:Nat}(h:S6 n):∀c x,Ck c->OkY x->Sc c (wS x)->5*wS x+1<=n+1->Og Ep ((Z1w (n+1)).C9 c x) (QA c (2*wS x)):=by
 intro c x hc hx hs hn;show Og Ep (Q2h (Z1w n) c x) _;unfold Q2h;have hw:=Y2t x;have hww:=hx.w;have hsa:=hx.sa;have pw:=Y0r x;obtain⟨f,hf,hs1,hs2⟩:=id hs;have tg:∀{c'},Tg c c'->St c c':=fun g=>St.of hc g hf;have w1:∀y∈x.A,6*wE y<=70000:=fun y hy=>by have:=(hx.A y hy).w;omega
 by_cases k1:x.Kind=1
 . rw[c1 (by rw[k1];rfl)];obtain⟨u,hu,hum⟩:=at0 (hsa.1 (.inl k1));have ou:=hx.A u hum;refine Og.step hu ?_;refine Og.bind (X0y hc ou) (fun y a=>?_) (fun e he=>Og.err he);obtain⟨a1,t,a2,a3⟩:=a;exact Og.ok (QA.one (tg a1) (by rw[a2];exact Ad.flat (by omega) (fun t ht=>by rw[kQ.1 ht];exact(a3.mono (w1 u hum)).up (tg a1).cl)) (by omega))
 rw[c0 (by simpa using k1)]
 by_cases k2:x.Kind=2
 . rw[c1 (by rw[k2];rfl)];obtain⟨u,hu,hum⟩:=at0 (hsa.2 k2);obtain⟨v1,v2,v3,v4⟩:=hx.V u hum;refine Og.step hu ?_;refine Og.bind (X3f hc hf hs1 v1 v2 v3 v4) (fun y a=>?_) (fun e he=>Og.err he);exact Og.ok ⟨a.1,fun z hz=>(a.2.1 z hz).mono (by omega),by have:=a.2.2;dsimp only;omega⟩
 rw[c0 (by simpa using k2)]
 by_cases k3:x.Kind=3
 . rw[c1 (by rw[k3];rfl)];obtain⟨u,hu,hum⟩:=at0 (hsa.1 (.inr (.inl k3)));refine Og.step hu ?_;refine Og.bind (one_g hc 2 (hx.A u hum)) (fun y a=>?_) (fun e he=>Og.err he);obtain⟨a1,t,a2,a3⟩:=a;have s1:=tg a1;refine Og.bind (h.block _ x.Body s1.ck hx.body (by omega) (Sc.mono (Sc.st hs s1) (by omega)) (by omega)) (fun y4 a4=>?_) (fun e he=>Og.err he);have s2:=s1.trans a4.1;refine Og.bind (h.block _ x.Else s2.ck hx.els (by omega) (Sc.mono (Sc.st hs s2) (by omega)) (by omega)) (fun y5 a5=>?_) (fun e he=>Og.err he);refine Og.ok (QA.one (s2.trans a5.1) ?_ (by omega));rw[a2];exact Ad.mono (n:=2*(sm wS x.Body+sm wS x.Else)+1) (.mk (fun t ht=>by rw[kQ.1 ht];exact(a3.mono (w1 u hum)).up (s2.trans a5.1).cl) P5 (fun z hz=>((a4.2.1 z hz).mono (by omega)).up a5.1.cl) (fun z hz=>(a5.2.1 z hz).mono (by omega)) P5 ⟨by simp,by simp,by have:=a4.2.2;dsimp only;omega,by have:=a5.2.2;dsimp only;omega,by simp,P5⟩ ⟨fun _=>by exact qD 1,fun e=>(by cases e)⟩) (by omega)
 rw[c0 (by simpa using k3)]
 by_cases k4:x.Kind=4
 . rw[c1 (by rw[k4];rfl)];obtain⟨u,hu,hum⟩:=at0 (hsa.1 (.inr (.inr (.inl k4))));refine Og.step hu ?_;refine Og.bind (one_g hc 3 (hx.A u hum)) (fun y a=>?_) (fun e he=>Og.err he);obtain⟨a1,t,a2,a3⟩:=a;have s1:=tg a1;refine Og.bind (h.looped _ x.Body s1.ck hx.body (by omega) (Sc.mono (Sc.st hs s1) (by omega)) (by omega)) (fun y4 a4=>?_) (fun e he=>Og.err he);refine Og.ok (QA.one (s1.trans a4.1) ?_ (by omega));rw[a2];exact Ad.mono (n:=2*sm wS x.Body+1) (.mk (fun t ht=>by rw[kQ.1 ht];exact(a3.mono (w1 u hum)).up (s1.trans a4.1).cl) P5 a4.2.1 P5 P5 ⟨by simp,by simp,by have:=a4.2.2;dsimp only;omega,by simp,by simp,P5⟩ aok) (by omega)
 rw[c0 (by simpa using k4)]
 by_cases k5:x.Kind=5
 . rw[c1 (by rw[k5];rfl)];refine Og.bind (h.looped _ x.Body hc hx.body (by omega) (Sc.mono hs (by omega)) (by omega)) (fun y4 a4=>?_) (fun e he=>Og.err he);obtain⟨u,hu,hum⟩:=at0 (hsa.1 (.inr (.inr (.inr (.inl k5)))));refine Og.step hu ?_;refine Og.bind (one_g a4.1.ck 3 (hx.A u hum)) (fun y a=>?_) (fun e he=>Og.err he);obtain⟨a1,t,a2,a3⟩:=a;refine Og.ok (QA.one (a4.1.step a1) ?_ (by omega));rw[a2];exact Ad.mono (n:=2*sm wS x.Body+1) (.mk (fun t ht=>by rw[kQ.1 ht];exact(a3.mono (w1 u hum)).up (Clq.eq a1.cx.symm)) P5 (fun z hz=>(a4.2.1 z hz).up (Clq.eq a1.cx.symm)) P5 P5 ⟨by simp,by simp,by have:=a4.2.2;dsimp only;omega,by simp,by simp,P5⟩ aok) (by omega)
 rw[c0 (by simpa using k5)];have blk:∀{X:Cx}{m:Nat}{l:List K1},(∀z∈l,Ad X m z)->m+1<=2*wS x->l.length<=40000*m->Ad X (2*wS x) (⟨8,[],[],false,l,[],[],0⟩:K1):=fun hl hm h3=>Ad.mono (.mk P5 P5 hl P5 P5 ⟨by simp,by simp,by dsimp only;omega,by simp,by simp,P5⟩ aok) hm
 by_cases k6:x.Kind=6
 . rw[c1 (by rw[k6];rfl)];exact Og.bind (h.around c x hc hx hs (by omega)) (fun y a=>Og.ok (QA.one a.1 (blk a.2.1 (by omega) a.2.2) (by omega))) (fun e he=>Og.err he)
 rw[c0 (by simpa using k6)]
 by_cases k7:x.Kind=7
 . rw[c1 (by rw[k7];rfl)];exact Og.bind (h.choose c x hc hx hs (hsa.1 (.inr (.inr (.inr (.inr k7))))) (by omega)) (fun y a=>Og.ok (QA.one a.1 (a.2.mono (by omega)) (by omega))) (fun e he=>Og.err he)
 rw[c0 (by simpa using k7)]
 by_cases k8:x.Kind=8
 . rw[c1 (by rw[k8];rfl)];exact Og.bind (answer_g hc hf hx.pn hx.A) (fun y a=>Og.ok (QA.one (tg a.1) ((a.2.mono (by omega)).up (tg a.1).cl) (by omega))) (fun e he=>Og.err he)
 rw[c0 (by simpa using k8)]
 by_cases k11:x.Kind=11
 . rw[c1 (by rw[k11];rfl)];exact Og.bind (h.block c x.Body hc hx.body (by omega) (Sc.mono hs (by omega)) (by omega)) (fun y a=>Og.ok (QA.one a.1 (blk a.2.1 (by omega) a.2.2) (by omega))) (fun e he=>Og.err he)
 rw[c0 (by simpa using k11)];have s0:=tg (Tg.refl hc.tab)
 by_cases k9:x.Kind=9
 . rw[c1 (by rw[k9];rfl)];refine Og.step (x:=f) (by rw[hf];rfl) ?_;cases f.breaks==0 with
   |true=>rw[c1 (b:=true) rfl];exact Q0d hx.pn (by decide)
   |false=>exact Og.ok (QA.one s0 (Ad.flat (by omega) P5) (by omega))
 rw[c0 (by simpa using k9)]
 by_cases k10:x.Kind=10
 . rw[c1 (by rw[k10];rfl)];refine Og.step (x:=f) (by rw[hf];rfl) ?_;cases f.loops==0 with
   |true=>rw[c1 (b:=true) rfl];exact Q0d hx.pn (by decide)
   |false=>exact Og.ok (QA.one s0 (Ad.flat (by omega) P5) (by omega))
 rw[c0 (by simpa using k10)];exact Og.ok ⟨s0,P5,by simp⟩
theorem rdS6:∀n,S6 n
 |0=>⟨fun _ _ _ _ _ _ h=>by omega,fun _ _ _ _ _ _ h=>by omega,fun _ x _ _ _ h=>by have:=Y0r x;omega,fun _ x _ _ _ _ h=>by have:=Y0r x;omega,fun _ _ _ _ _ h=>by omega,fun _ _ _ _ _ _ h=>by omega⟩
 |n+1=>⟨block_s6 (rdS6 n),X5n (rdS6 n),X6j (rdS6 n),X5z (rdS6 n),stmt_s6 (rdS6 n),acts_s6 (rdS6 n)⟩
theorem acts_any{c:Q0}{l:List E5}(hc:Ck c)(hl:∀y∈l,OkS y)(hw:sm wS l<=5000)(hs:Sc c (sm wS l)):Og Ep (E9 c l) (QA c (2*sm wS l)):=(rdS6 NN).acts c l hc hl hw hs (by unfold NN;omega)
def Cd(X:Cx)(n:Nat)(q:Q4n):Prop:=(∀a∈q.Body,Ad ⟨X.sig,X.G,q.Slots.length⟩ 10000 a)/\q.Body.length<=1000000000/\q.Slots.length<=200/\n<=q.Slots.length
def Cn(c:Q0):Prop:=Ck {c with fun_:=O3.nil}
theorem Ck.codes{c:Q0}(h:Ck c){l:List Q4n}(hl:l.length=c.u.Codes.length):Ck {c with u:={c.u with Codes:=l}}:=⟨h.tab,h.gl,h.co,h.fn,h.gn,h.cn,h.ug,hl.trans h.uc,h.lg,h.lc⟩
theorem Ck.noFun{c:Q0}(h:Ck c):Cn c:=⟨h.tab,h.gl,h.co,trivial,h.gn,h.cn,h.ug,h.uc,h.lg,h.lc⟩
structure Bo(c:Q0)(n:Nat)(i:Nat)(c':Q0):Prop where
 cn:Cn c'
 s:c'.signs=c.signs
 d:c'.u.Data=c.u.Data
 k:c'.gtypes=c.gtypes
 mn:c'.u.Main=c.u.Main
 m:∃q,Cd (cx c) n q/\c'.u.Codes=qP c.u.Codes i q
theorem body_g{c:Q0}(hc:Cn c){i:Nat}(hi:i<c.signs.length){f:Q1d}(hf:OkF f)(hw:wF f<=5000)(hp:c.signs[i].params.length=f.Params.length):Og Ep (Q5n c (i:Int) f) (Bo c f.Params.length i):=by
 unfold Q5n;have hwf:wF f=1+f.Ret.Stars.toNat+sm wV f.Params+sm wS f.Body:=rfl;have lp:=Q3l Y0q f.Params;have huc:c.u.Codes.length=c.signs.length:=hc.uc;refine Og.step (C1 hi) ?_;have ck1:Ck {c with fun_:=(O3.some (⟨c.signs[i].ret,[],[],([(some [])]:List (Option (List ((List UInt8)×Int)))),0,0⟩:G5))}:=⟨hc.tab,hc.gl,hc.co,(⟨rfl,by simp,fun m hm=>by rw[kQ.1 hm];exact⟨[],rfl,fun a b hb=>by cases hb⟩,by simp⟩:Fn (⟨c.signs[i].ret,[],[],([(some [])]:List (Option (List ((List UInt8)×Int)))),0,0⟩:G5)),hc.gn,hc.cn,hc.ug,hc.uc,hc.lg,hc.lc⟩;refine Og.loop (fun s=>0<=s.2.1/\s.2.1<=f.Params.length/\St {c with fun_:=(O3.some (⟨c.signs[i].ret,[],[],([(some [])]:List (Option (List ((List UInt8)×Int)))),0,0⟩:G5))} {s.2.2 with t:=(⟨s.1⟩:Z7)}/\(slo s.2.2.fun_:Int)=s.2.1) (fun s=>f.Params.length-s.2.1.toNat) ⟨qC 0,by dsimp only;omega,St.refl ck1 rfl,rfl⟩ (by dsimp only;omega) ?_;rintro⟨x2,x10,x11⟩ ⟨i1,i2,i3,i4⟩
 dsimp only at i1 i2 i3 i4⊢
 have hsg:x11.signs=c.signs:=by
  have e:=i3.eq;have:=congrArg Q0.signs e;exact this
 by_cases hlt:x10<f.Params.length
 . rw[c1 (dt hlt)];obtain⟨v,hv,hvm⟩:=J2 ⟨i1,hlt⟩;refine Rn.step hv ?_;refine Rn.step (show idx x11.signs (i:Int)=some c.signs[i] by rw[hsg];exact C1 hi) ?_;obtain⟨p,hp2,_⟩:=J2 (l:=c.signs[i].params) (n:=x10) ⟨i1,by rw[hp];exact hlt⟩;refine Rn.step hp2 ?_;obtain⟨k,k',e1,e2,e3⟩:=i3.fn;cases e1;refine Rn.bindG (Y9c i3.ck e2 (by rw[e3];exact qD 1) (hf.ps v hvm).pos _ _) (fun y a=>?_) (fun e he=>Rn.ok (Og.err he));exact Rn.ok ⟨⟨by dsimp only;rw[w64 (by omega)];omega,by dsimp only;rw[w64 (by omega)];omega,i3.trans a.1,by have:=a.2.1;dsimp only at this⊢;rw[w64 (by omega),this];omega⟩,by dsimp only;rw[w64 (by omega)];omega⟩
 . rw[c0 (df hlt)];refine Rn.ok ?_;obtain⟨k,k',e1,e2,e3⟩:=i3.fn;cases e1;show Og Ep ((E9 _ _).bind _) _;refine Og.bind (acts_any i3.ck hf.body (by omega) ⟨k',e2,by rw[e3];exact qD 1,by rw[e3];show 1+_<=_;omega⟩) (fun y a=>?_) (fun e he=>Og.err he);have st:=i3.trans a.1;obtain⟨q,q',f1,f2,f3⟩:=st.fn;cases f1;have hfq:=st.ck.fn;rw[f2]at hfq;have hfq:Fn q':=hfq
   have eu:y.2.u=c.u:=by
    have e:=congrArg Q0.u st.eq;exact e
   have es:y.2.signs=c.signs:=by
    have e:=congrArg Q0.signs st.eq;exact e
   have eg:y.2.gtypes=c.gtypes:=by
    have e:=congrArg Q0.gtypes st.eq;exact e
   have esl:slo y.2.fun_=q'.slots.length:=by rw[f2];rfl
   have epl:=a.1.sl
   dsimp only at epl
   have hlc:i<y.2.u.Codes.length:=by rw[eu];omega
   refine Og.step (x:=q') (by rw[f2];rfl) ?_;obtain⟨u8,hu8⟩:∃u,idx y.2.u.Codes (i:Int)=some u:=⟨_,C1 hlc⟩;refine Og.step hu8 ?_;refine Og.step hu8 ?_
   have hl2:idx (qP y.2.u.Codes (qF (i:Int)) ({u8 with Body:=y.1})) (i:Int)=some {u8 with Body:=y.1}:=by
    rw[Int.toNat_natCast,C1 (by rw[jG];exact hlc),List.getElem_set_self]
   refine Og.step hl2 ?_;refine Og.step hl2 ?_;refine Og.ok ⟨(st.ck.codes (by simp)).noFun,es,by dsimp only;rw[eu],eg,by dsimp only;rw[eu],_,?_,by dsimp only;rw[eu,Int.toNat_natCast,List.set_set]⟩;exact⟨fun z hz=>((a.2.1 z hz).mono (by omega)).up ⟨by unfold cx;rw[es],by unfold cx;rw[eg],by show slo y.2.fun_<=q'.slots.length;omega⟩,by have:=a.2.2;dsimp only;omega,hfq.le,by dsimp only;omega⟩
structure Uo(X:Cx)(u:Q6a):Prop where
 g:u.Globals.length=X.G
 d:u.Data.length=X.G
 c:u.Codes.length=X.sig.length
 l:u.Codes.length<=200/\X.G<=200
 m:0<=u.Main/\u.Main<(u.Codes.length:Int)
 cd:∀(j n:Nat)(q:Q4n),u.Codes[j]?=some q->X.sig[j]?=some n->Cd X n q
theorem try_g{p:D4}(hp:OkP p)(hw:wP p<=5000){c:Q0}(hc:Ck c)(hf:c.fun_=O3.nil)(h0:c.signs=[])(hd:c.u.Data=[])(hk:c.gtypes=[]):Og Ep (Q7d c p) (fun c'=>∃X,Uo X c'.u):=by
 have hwp:wP p=sm wT p.Structs+sm wV p.Globals+sm wF p.Funcs:=rfl;have lS:=Q3l X3d p.Structs;have lG:=Q3l Y0q p.Globals;have lF:=Q3l X3e p.Funcs
 have oV:∀{v:M7}{k:Nat},wV v<=k->k<=5000->v.Dims.length<=5000/\(∀x∈v.Init,wE x<=10000)/\v.Init.length<=5000:=fun{v k} h1 h2=>by
  have h3:wV v=1+v.Type_.Stars.toNat+v.Dims.length+sm wE v.Init:=rfl;have h4:=Q3l Q4s v.Init;exact⟨by omega,fun x hx=>by have:=Z4b wE hx;omega,by omega⟩
 unfold Q7d;refine Og.bind (X5b hc.tab (by omega) (fun s hs=>?_)) (fun y1 a1=>?_) (fun e he=>Og.err he)
 . have h1:=Z4b wT hs;have h2:wT s=1+sm wV s.Fields:=rfl;have h3:=hp.s s hs;have h4:=Q3l Y0q s.Fields;exact⟨h3.2.2,fun v hv=>⟨h3.2.1 v hv,by have:=Z4b wV hv;have:wV v=1+v.Type_.Stars.toNat+v.Dims.length+sm wE v.Init:=rfl;omega⟩,by omega⟩
 have e1:=a1.eq;have ck1:=hc.tt a1;have f1:y1.fun_=c.fun_:=by rw[e1]
 have s1:y1.signs=[]:=by rw[e1];exact h0
 have d1:y1.u.Data=[]:=by rw[e1];exact hd
 refine Og.loop (fun s=>0<=s.1/\s.1<=p.Globals.length/\Ck {s.2.1 with t:=s.2.2}/\s.2.1.fun_=O3.nil/\s.2.1.signs=[]/\(s.2.1.u.Data.length:Int)=s.1/\s.2.1.gtypes.length=s.2.1.u.Data.length) (fun s=>p.Globals.length-s.1.toNat) ⟨qC 0,by dsimp only;omega,by dsimp only;rw[<-f1];exact ck1,hf,s1,by dsimp only;rw[d1];rfl,by dsimp only;rw[d1,e1];rw[hk];rfl⟩ (by dsimp only;omega) ?_;rintro⟨x10,x11,x12⟩ ⟨i1,i2,i3,i4,i5,i6,i7⟩
 dsimp only at i1 i2 i3 i4 i5 i6 i7⊢
 by_cases hlt:x10<p.Globals.length
 . rw[c1 (dt hlt)];obtain⟨v,hv,hvm⟩:=J2 ⟨i1,hlt⟩;have hwv:=Z4b wV hvm;obtain⟨v1,v2,v3⟩:=oV hwv (by omega);refine Rn.step hv ?_;refine Rn.bindG (global_g i3 (hp.g v hvm) v1 v2 v3 (by dsimp only;omega)) (fun y a=>?_) (fun e he=>Rn.ok (Og.err he));exact Rn.ok ⟨⟨by dsimp only;rw[w64 (by omega)];omega,by dsimp only;rw[w64 (by omega)];omega,a.ck,a.f.trans i4,a.s.trans i5,by have:=a.d;dsimp only at this⊢;rw[w64 (by omega)];omega,by have:=a.d;have:=a.k;dsimp only at*;omega⟩,by dsimp only;rw[w64 (by omega)];omega⟩
 rw[c0 (df hlt)];refine Rn.ok ?_;show Og Ep ((X5 _ NN _).bind _) _
 clear hlt
 refine Og.loop (fun s=>0<=s.1/\s.1<=p.Funcs.length/\Ck {s.2.1 with t:=s.2.2}/\s.2.1.fun_=O3.nil/\(s.2.1.signs.length:Int)=s.1/\(∀(j:Nat)(a:A1)(f:Q1d),s.2.1.signs[j]?=some a->p.Funcs[j]?=some f->a.params.length=f.Params.length)/\s.2.1.u.Data.length=s.2.1.gtypes.length) (fun s=>p.Funcs.length-s.1.toNat) ⟨qC 0,by dsimp only;omega,i3,i4,by dsimp only;rw[i5];rfl,fun j a f h=>(by dsimp only at h;rw[i5]at h;simp at h),by dsimp only;omega⟩ (by dsimp only;omega) ?_
 clear i3 i4 i5 i6 i7
 rintro⟨x22,x23,x24⟩ ⟨j1,j2,j3,j4,j5,j6,j7⟩
 dsimp only at j1 j2 j3 j4 j5 j6 j7⊢
 by_cases hlt:x22<p.Funcs.length
 . rw[c1 (dt hlt)];obtain⟨k,rfl⟩:=jR j1;have hk:k<p.Funcs.length:=by omega
   have hm:=jT hk;have ho:=hp.f _ hm;have hwv:=Z4b wF hm;have hwf:wF p.Funcs[k]=1+p.Funcs[k].Ret.Stars.toNat+sm wV p.Funcs[k].Params+sm wS p.Funcs[k].Body:=rfl;have lp:=Q3l Y0q p.Funcs[k].Params;refine Rn.step (C1 hk) ?_;refine Rn.bindG (header_g j3 ⟨ho.pos,ho.ty,ho.ps,by omega⟩) (fun y a=>?_) (fun e he=>Rn.ok (Og.err he));obtain⟨sg,sg1,sg2⟩:=a.s
   dsimp only at sg1
   have fn:=a.f
   dsimp only at fn
   refine Rn.ok ⟨⟨by dsimp only;rw[w64 (by omega)];omega,by dsimp only;rw[w64 (by omega)];omega,?_,j4,by dsimp only;rw[w64 (by omega),sg1,qW];simp;omega,fun j b f h1 h2=>?_,by have:=a.d;have e:=a.k;dsimp only at this e⊢;rw[this,e];exact j7⟩,by dsimp only;rw[w64 (by omega)];omega⟩
   . dsimp only
     rw[<-fn];exact a.ck
   . dsimp only at h1
     rw[sg1]at h1
     by_cases hj:j<x23.signs.length
     . rw[kR hj]at h1;exact j6 j b f h1 h2
     . have hjk:j=k:=by
        have:=(List.getElem?_eq_some_iff.1 h1).1;rw[qW,qG]at this;omega
       subst hjk;rw[kS (by omega),show j-x23.signs.length=0 by omega]at h1;cases h1;rw[kM hk]at h2;cases h2;exact sg2
 rw[c0 (df hlt)];refine Rn.ok ?_;show Og Ep ((Q1t _ _).bind _) _;have hFl:x23.signs.length=p.Funcs.length:=by omega
 refine Og.bind (main_g j3 (by dsimp only;omega) (fun f hf=>(hp.f f hf).pos)) (fun y4 a4=>?_) (fun e he=>Og.err he);obtain⟨mn,hmn,rfl⟩:=a4
 dsimp only at hmn
 dsimp only
 have ck4:Cn {x23 with t:=x24,u:={x23.u with Main:=mn}}:=⟨j3.tab,j3.gl,j3.co,trivial,j3.gn,j3.cn,j3.ug,j3.uc,j3.lg,j3.lc⟩;have hcl:=ck4.lc
 dsimp only at hcl
 refine Og.loop (fun s=>0<=s.1/\s.1<=p.Funcs.length/\Cn {s.2.1 with t:=s.2.2}/\s.2.1.signs=x23.signs/\(s.2.1.u.Data=x23.u.Data/\s.2.1.gtypes=x23.gtypes/\s.2.1.u.Main=mn)/\(∀(j n:Nat)(q:Q4n),(j:Int)<s.1->s.2.1.u.Codes[j]?=some q->(cx x23).sig[j]?=some n->Cd (cx x23) n q)) (fun s=>p.Funcs.length-s.1.toNat) ⟨qC 0,by dsimp only;omega,ck4,rfl,⟨rfl,rfl,rfl⟩,fun j n q h=>by dsimp only at h;omega⟩ (by dsimp only;omega) ?_
 clear ck4 j3 hlt
 rintro⟨x34,x35,x36⟩ ⟨k1,k2,k3,k4,⟨k5,k7,k8⟩,k6⟩
 dsimp only at k1 k2 k3 k4 k5 k6 k7 k8⊢
 have huc:=k3.uc;have hug:=k3.ug;have hlg:=k3.lg
 dsimp only at huc hug hlg
 by_cases hlt:x34<p.Funcs.length
 . rw[c1 (dt hlt)];obtain⟨k,rfl⟩:=jR k1;have hk:k<p.Funcs.length:=by omega
   have hm:=jT hk;have ho:=hp.f _ hm;have hwv:=Z4b wF hm;have hs:k<({x35 with t:=x36}:Q0).signs.length:=by dsimp only;rw[k4];omega
   have hsp:({x35 with t:=x36}:Q0).signs[k].params.length=p.Funcs[k].Params.length:=by
    refine j6 k _ _ ?_ (kM hk);rw[<-k4];exact kM hs
   refine Rn.step (C1 hk) ?_;refine Rn.bindG (body_g k3 hs ho (by omega) hsp) (fun y a=>?_) (fun e he=>Rn.ok (Og.err he));obtain⟨q,q1,q2⟩:=a.m;refine Rn.ok ⟨⟨by dsimp only;rw[w64 (by omega)];omega,by dsimp only;rw[w64 (by omega)];omega,a.cn,a.s.trans k4,⟨a.d.trans k5,a.k.trans k7,a.mn.trans k8⟩,fun j n r h1 h2 h3=>?_⟩,by dsimp only;rw[w64 (by omega)];omega⟩
   dsimp only at h1 h2
   rw[w64 (by omega)]at h1;rw[q2,List.getElem?_set]at h2
   split at h2
   . split at h2
     . rename_i hjk _
       cases h2
       have hsg:(cx x23).sig[k]?=some p.Funcs[k].Params.length:=by
        unfold cx;rw[<-k4,List.getElem?_map,kM hs];exact congrArg some hsp
       rw[<-hjk,hsg]at h3;cases h3;have e:cx {x35 with t:=x36}=⟨(cx x23).sig,(cx x23).G,slo x35.fun_⟩:=by unfold cx;dsimp only;rw[k4,k7]
       rw[e]at q1;exact q1
     . cases h2
   . exact k6 j n r (by omega) h2 h3
 . rw[c0 (df hlt)];refine Rn.ok (Og.ok ⟨cx x23,by dsimp only;rw[hug,k7];rfl,by dsimp only;rw[k5,j7];rfl,by dsimp only;rw[huc,k4];unfold cx;rw[List.length_map],⟨by dsimp only;rw[huc,k4];exact hcl,by show x23.gtypes.length<=200;rw[<-k7];exact hlg⟩,by dsimp only;rw[k8,huc,k4];exact hmn,fun j n q h1 h2=>k6 j n q ?_ h1 h2⟩);have:=(List.getElem?_eq_some_iff.1 h1).1;rw[huc,k4]at this;omega
theorem newTab:∃t,Y4s=some t/\Tab t:=by
 refine⟨_,rfl,by decide,by decide,fun k hk=>?_⟩
 simp only[qZ,List.not_mem_nil,or_false]at hk
 rcases hk with rfl|rfl|rfl
 . exact⟨by decide,by decide,fun h=>absurd rfl h,fun h=>(by cases h),fun h=>(by cases h),by simp⟩
 . exact⟨by decide,by decide,fun _=>(by decide),fun h=>(by cases h),fun h=>(by cases h),by simp⟩
 . exact⟨by decide,by decide,fun _=>(by decide),fun h=>(by cases h),fun h=>(by cases h),by simp⟩
theorem X6l{p:D4}(hp:OkP p)(hw:wP p<=5000):∃u q e,Z5b p=some (u,q,e)/\((e=0/\q=⟨0,0⟩/\∃X,Uo X u)\/(e≠0/\Pn q)):=by
 obtain⟨t,ht,hT⟩:=newTab;unfold Z5b;rw[ht,qV];have h:=try_g hp hw (c:=⟨t,⟨[],[],[],0⟩,some [],some [],[],[],O3.nil⟩) ⟨hT,⟨[],rfl,fun a b h=>(by cases h)⟩,⟨[],rfl,fun a b h=>(by cases h)⟩,trivial,rfl,rfl,rfl,rfl,by simp,by simp⟩ rfl rfl rfl rfl;obtain⟨z,hz,hq⟩:=h;rw[hz,qV];cases z with
 |error e=>exact⟨_,_,_,rfl,.inr ⟨hq.2,hq.1⟩⟩
 |ok c'=>exact⟨_,_,_,rfl,.inl ⟨rfl,rfl,hq⟩⟩
end
section
theorem Rn.bd{Z B:Type}{m:Option B}{p:B->Prop}{f:B->Option Z}{P:Z->Prop}(h:Rn m p)(k:∀x,p x->Rn (f x) P):Rn (m.bind f) P:=by
 obtain⟨x,e,hx⟩:=h;exact Rn.step e (k x hx)
def Nr{S R Z:Type}(I:S->Prop)(μ:S->Nat)(s:S)(f:Lp S R->Option Z)(P:Z->Prop):Lp S R->Prop
 | .go s'=>I s'/\μ s'<μ s
 | .brk s'=>Rn (f (.brk s')) P
 | .ret r=>Rn (f (.ret r)) P
theorem Rn.lp{S R Z:Type}{body:S->Option (Lp S R)}{f:Lp S R->Option Z}{P:Z->Prop}{s:S}(I:S->Prop)(μ:S->Nat)(hI:I s)(hn:μ s<1000000000000)(hs:∀s,I s->Rn (body s) (Nr I μ s f P)):Rn ((X5 body NN s).bind f) P:=by
 obtain⟨o,ho,hp⟩:=L5 I μ (fun o=>Rn (f o) P) hI (Q6f (by omega)) (fun s h=>by
  obtain⟨z,e,hz⟩:=hs s h;exact⟨z,e,by cases z<;>exact hz⟩)
 exact Rn.step ho hp
theorem Rn.mono{Z:Type}{y:Option Z}{P Q:Z->Prop}(h:Rn y P)(k:∀z,P z->Q z):Rn y Q:=h.elim fun z hz=>⟨z,hz.1,k z hz.2⟩
structure Oo(o:G4):Prop where
 s:o.bytes.set_.length=o.bytes.data.length
 l:o.bytes.data.length<=32768
structure Mo(m:Y5):Prop where
 l:m.list.length<=1048576
 o:∀o∈m.list,Oo o
theorem Mo.put{m:Y5}(h:Mo m)(n:Nat){o:G4}(ho:Oo o):Mo ⟨qP m.list n o⟩:=⟨by dsimp only;rw[jG];exact h.l,fun x hx=>by
 rcases Y4j hx with hx|rfl
 . exact h.o x hx
 . exact ho⟩
theorem Y4c{α:Type}{n:Int}(h:0<=n/\n<=32768)(z:α):∃l,repl n z=some l/\l.length=n.toNat:=⟨_,by unfold repl;rw[if_pos (by omega)],by simp⟩
theorem X3a{m:Y5}(h:Mo m)(n:Int):Rn (Q4p m n) (fun y=>Mo y.2.2):=by
 have hl:=h.l;unfold Q4p
 by_cases h0:n<1\/32768<n
 . rw[c1 (by simpa using h0)];exact Rn.ok h
 rw[c0 (by simpa using h0)]
 by_cases h1:(1048576:Int)<=m.list.length
 . rw[c1 (dt h1)];exact Rn.ok h
 rw[c0 (df h1)];obtain⟨a,ea,la⟩:=Y4c (n:=n) (by omega) (0:Int);obtain⟨b,eb,lb⟩:=Y4c (n:=n) (by omega) false;refine Rn.step ea (Rn.step eb (Rn.step (B7 (by omega)) (Rn.ok ⟨by dsimp only;rw[qW];simp;omega,fun x hx=>?_⟩)))
 rcases jQ.1 hx with hx|hx
 . exact h.o x hx
 . rw[kQ.1 hx];exact⟨by dsimp only;omega,by dsimp only;omega⟩
def Ix(m:Y5)(y:Int×Int):Prop:=y.2=0->0<=y.1/\y.1<(m.list.length:Int)
theorem Y3j{m:Y5}(h:Mo m)(n:Int):Rn (W3 m n) (Ix m):=by
 have hl:=h.l;unfold W3
 by_cases h0:n<1\/(m.list.length:Int)<n
 . rw[c1 (by simpa using h0)];exact Rn.ok fun e=>by cases e
 rw[c0 (by simpa using h0),w64 (by omega)];obtain⟨o,eo,_⟩:=J2 (l:=m.list) (n:=n-1) (by omega);refine Rn.step eo ?_;cases o.gone with
 |true=>exact Rn.ok fun e=>by cases e
 |false=>exact Rn.step eo (Rn.ok fun _=>by dsimp only;omega)
theorem X0n{m:Y5}(h:Mo m)(p:X9):Rn (Q1c m p) (Ix m):=by
 have hl:=h.l;unfold Q1c
 by_cases h0:p.Obj=0
 . rw[c1 (by rw[h0];rfl)];exact Rn.ok fun e=>by cases e
 rw[c0 (by simpa using h0)]
 by_cases h1:p.Obj<0
 . rw[c1 (dt h1)];exact Rn.ok fun e=>by cases e
 rw[c0 (df h1)]
 by_cases h2:(m.list.length:Int)<p.Obj
 . rw[c1 (dt h2)];exact Rn.ok fun e=>by cases e
 rw[c0 (df h2),w64 (by omega)];obtain⟨o,eo,_⟩:=J2 (l:=m.list) (n:=p.Obj-1) (by omega);refine Rn.step eo ?_;cases o.gone with
 |true=>exact Rn.ok fun e=>by cases e
 |false=>exact Rn.step eo (Rn.ok fun _=>by dsimp only;omega)
theorem Y7p(o:G4){a z:Int}(ha:0<=a/\a<=32768)(hz:0<=z/\z<=4):Rn (Q0v o a z) (fun x=>x.bytes=o.bytes):=by
 unfold Q0v;rw[w64 (x:=a+z) (by omega),w64 (x:=a-4) (by omega),w64 (x:=a-4+1) (by omega)];refine Rn.lp (fun s=> -4<=s.2/\s.2<=a+z) (fun s=>(a+z-s.2).toNat) (by dsimp only;omega) (by dsimp only;omega) ?_;rintro⟨x1,x2⟩ ⟨i1,i2⟩
 dsimp only at i1 i2⊢
 cases hb:(decide (x2<a+z)&&decide (0<(Z3w x1:Int)))with
 |false=>exact Rn.ok (Rn.ok rfl)
 |true=>
  simp only[qM,decide_eq_true_eq]at hb
  exact Rn.ok ⟨by dsimp only;rw[w64 (by omega)];omega,by dsimp only;rw[w64 (by omega)];omega⟩
theorem Fill_any{m:Y5}(h:Mo m)(n:Int)(l:List Int):Rn (Q8e m n l) (fun y=>Mo y.2):=by
 unfold Q8e;refine Rn.bd (Y3j h n) fun y hy=>?_
 by_cases h0:y.2=0
 case neg=>rw[c1 (by simpa using h0)];exact Rn.ok h
 rw[c0 (by simpa using h0)];obtain⟨o,eo,hm⟩:=J2 (hy h0);have ho:=h.o o hm;have hol:=ho.l;refine Rn.step eo ?_
 by_cases h1:(o.bytes.data.length:Int)<l.length
 . rw[c1 (dt h1)];exact Rn.ok h
 rw[c0 (df h1)];refine Rn.lp (fun s=>(0<=s.1/\s.1<=l.length)/\Oo s.2/\s.2.bytes.data.length=o.bytes.data.length) (fun s=>l.length-s.1.toNat) ⟨⟨qC 0,by dsimp only;omega⟩,ho,rfl⟩ (by dsimp only;omega) ?_;rintro⟨x4,x5⟩ ⟨i1,i2,i3⟩
 dsimp only at i1 i2 i3⊢
 by_cases h2:x4<l.length
 . rw[c1 (dt h2)];obtain⟨u,eu,_⟩:=J2 ⟨i1.1,h2⟩;refine Rn.step eu (Rn.bd (Y7p x5 (by omega) (by decide)) fun q hq=>?_);have i4:=i2.s;rw[hq];obtain⟨d,ed,_⟩:=J2 (l:=x5.bytes.data) (n:=x4) (by omega);obtain⟨s,es,_⟩:=J2 (l:=x5.bytes.set_) (n:=x4) (by omega);refine Rn.step ed (Rn.step ed (Rn.step es (Rn.step es (Rn.ok ⟨⟨by dsimp only;rw[w64 (by omega)];omega,⟨by simpa using i4,by simpa using i2.l⟩,by simpa using i3⟩,by dsimp only;rw[w64 (by omega)];omega⟩))))
 . rw[c0 (df h2)];exact Rn.ok (Rn.ok (h.put _ i2))
theorem X6k{m:Y5}(h:Mo m)(n:Int):Rn (Q6o m n) (fun y=>Mo y.2):=by
 unfold Q6o;refine Rn.bd (Y3j h n) fun y hy=>?_
 by_cases h0:y.2=0
 case neg=>rw[c1 (by simpa using h0)];exact Rn.ok h
 rw[c0 (by simpa using h0)];obtain⟨o,eo,hm⟩:=J2 (hy h0);have ho:=(h.o o hm).l;obtain⟨a,ea,la⟩:=Y4c (n:=(o.bytes.data.length:Int)) (by omega) (0:Int);obtain⟨b,eb,lb⟩:=Y4c (n:=(o.bytes.data.length:Int)) (by omega) false;exact Rn.step eo (Rn.step ea (Rn.step eb (Rn.ok (h.put _ ⟨by dsimp only;omega,by dsimp only;omega⟩))))
theorem Drop_any{m:Y5}(h:Mo m)(n:Int):Rn (Q8f m n) (fun y=>Mo y.2):=by
 unfold Q8f;refine Rn.bd (Y3j h n) fun y hy=>?_
 by_cases h0:y.2=0
 case neg=>rw[c1 (by simpa using h0)];exact Rn.ok h
 rw[c0 (by simpa using h0)];obtain⟨o,eo,hm⟩:=J2 (hy h0);exact Rn.step eo (Rn.ok (h.put _ ⟨rfl,by decide⟩))
structure Pl(m:Y5)(p:X9)(z:Int)(i:Int):Prop where
 zz:z=1\/z=4
 pp:0<=p.Off
 oo:∃o,idx m.list i=some o/\Oo o/\p.Off+z<=o.bytes.data.length
theorem Y8x{m:Y5}(h:Mo m)(p:X9)(z:Int)(b:Bool):Rn (Q2v m p z b) (fun y=>y.2=0->Pl m p z y.1):=by
 unfold Q2v
 by_cases h0:z=1\/z=4
 case neg=>rw[c1 (by simp only[Bool.or_eq_true,qM,bne_iff_ne];exact .inl (by omega))];exact Rn.ok fun e=>by cases e
 have key:∀k:Bool,Rn (bif k then(some ((-1:Int),(1:Int)))else((Q1c m p).bind fun y1=>bif y1.2 !=0 then(some ((-1:Int),y1.2))else(bif decide (p.Off<p.Lo)then(some ((-1:Int),(12:Int)))else((Q9b p 0 z).bind fun y2=>bif !y2 then(some ((-1:Int),(12:Int)))else(bif decide (p.Off<0)then(some ((-1:Int),(12:Int)))else((idx m.list y1.1).bind fun u1=>bif decide ((qQ u1.bytes.data:Int)<z)then(some ((-1:Int),(12:Int)))else(bif decide ((qJ .i64 ((qQ u1.bytes.data:Int)-z))<p.Off)then(some ((-1:Int),(12:Int)))else(some ((y1.1:Int),(0:Int)))))))))) (fun y=>y.2=0->Pl m p z y.1):=by
  intro k;cases k with
  |true=>exact Rn.ok fun e=>by cases e
  |false=>
  rw[c0 (b:=false) rfl];refine Rn.bd (X0n h p) fun y hy=>?_
  by_cases h1:y.2=0
  case neg=>rw[c1 (by simpa using h1)];exact Rn.ok fun e=>absurd e h1
  rw[c0 (by simpa using h1)];cases decide (p.Off<p.Lo)with
  |true=>exact Rn.ok fun e=>by cases e
  |false=>
  rw[c0 (b:=false) rfl];obtain⟨w,ew⟩:∃w,Q9b p 0 z=some w:=⟨_,rfl⟩;refine Rn.step ew ?_;cases w with
  |false=>exact Rn.ok fun e=>by cases e
  |true=>
  rw[c0 (b:=!true) rfl]
  by_cases h2:p.Off<0
  . rw[c1 (dt h2)];exact Rn.ok fun e=>by cases e
  rw[c0 (df h2)];obtain⟨o,eo,hm⟩:=J2 (hy h1);have ho:=h.o o hm;have hol:=ho.l;refine Rn.step eo ?_
  by_cases h3:(o.bytes.data.length:Int)<z
  . rw[c1 (dt h3)];exact Rn.ok fun e=>by cases e
  rw[c0 (df h3),w64 (by omega)]
  by_cases h4:(o.bytes.data.length:Int)-z<p.Off
  . rw[c1 (dt h4)];exact Rn.ok fun e=>by cases e
  rw[c0 (df h4)];exact Rn.ok fun _=>⟨h0,by omega,o,eo,ho,by omega⟩
 exact key _
theorem nn8{x:Int}(h:0<=x/\x<=4):nn (qJ .i64 (8*x))=some ():=by unfold nn;rw[w64 (by omega),if_pos (by omega)]
theorem X3b{m:Y5}(h:Mo m)(p:X9)(z:Int)(b:Bool):Rn (Q4q m p z b) (fun y=>U32 y.1.Num):=by
 unfold Q4q;refine Rn.bd (Y8x h p z b) fun y hy=>?_
 by_cases h0:y.2=0
 case neg=>rw[c1 (by simpa using h0)];exact Rn.ok Q4t
 rw[c0 (by simpa using h0)];obtain⟨hz,hp,o,eo,ho,hl⟩:=hy h0;have hs:=ho.s;have hol:=ho.l;refine Rn.lp (fun s=>U32 s.1/\0<=s.2/\s.2<=z) (fun s=>(z-s.2).toNat) ⟨Q4t,qC 0,by dsimp only;omega⟩ (by dsimp only;omega) ?_;rintro⟨x1,x2⟩ ⟨i0,i1,i2⟩
 dsimp only at i0 i1 i2⊢
 by_cases h1:x2<z
 . rw[c1 (dt h1),w64 (x:=p.Off+x2) (by omega)];obtain⟨s,es,_⟩:=J2 (l:=o.bytes.set_) (n:=p.Off+x2) (by omega);obtain⟨d,ed,_⟩:=J2 (l:=o.bytes.data) (n:=p.Off+x2) (by omega);refine Rn.step eo (Rn.step es ?_);cases s with
   |false=>exact Rn.ok (Rn.ok Q4t)
   |true=>exact Rn.step ed (Rn.step (nn8 (by omega)) (Rn.ok ⟨⟨by dsimp only;exact u32b _ _ _,by dsimp only;rw[w64 (by omega)];omega⟩,by dsimp only;rw[w64 (by omega)];omega⟩))
 . rw[c0 (df h1)];refine Rn.ok ?_;show Rn (bif b then _ else _) _;cases b with
   |true=>exact Rn.step eo (Rn.ok Q4t)
   |false=>exact Rn.ok i0
theorem X4x{m:Y5}(h:Mo m)(p:X9)(z:Int)(v:Y1):Rn (I2 m p z v) (fun y=>Mo y.2):=by
 unfold I2
 dsimp only[jn]
 refine Rn.bd (Y8x h p z v.Is) fun y hy=>?_
 by_cases h0:y.2=0
 case neg=>rw[c1 (by simpa using h0)];exact Rn.ok h
 rw[c0 (by simpa using h0)];obtain⟨hz,hp,o,eo,ho,hl⟩:=hy h0;have hol:=ho.l;refine Rn.step eo (Rn.bd (Y7p o (by omega) (by omega)) fun q hq=>?_)
 have key:∀(n:Int)(x:G4),x.bytes=o.bytes->Rn ((X5 (fun(x10,x11,x12)=>(bif decide (x12<z)then((nn (qJ .i64 (8*x12))).bind fun _=>(idx x10 (qJ .i64 (p.Off+x12))).bind fun u3=>(idx x10 (qJ .i64 (p.Off+x12))).bind fun u4=>(idx x11 (qJ .i64 (p.Off+x12))).bind fun u5=>(idx x11 (qJ .i64 (p.Off+x12))).bind fun u6=>some (Lp.go (qP x10 (qF (qJ .i64 (p.Off+x12))) (qJ .u8 (Int.fdiv n (2^(min (qF (qJ .i64 (8*x12))) (IntKind.bits .u32))))),qP x11 (qF (qJ .i64 (p.Off+x12))) true,qJ .i64 (x12+1))))else(some (Lp.brk (x10,x11,x12))):Option (Lp ((List Int)×(List Bool)×Int) (Unit)))) NN (x.bytes.data,x.bytes.set_,(0:Int))).bind fun o=>o.thn (fun(x10,x11,x12)=>some ((0:Int),(⟨qP m.list (qF y.1) ({x with bytes:=(⟨x10,x11⟩:O4)})⟩:Y5))) (fun _=>none)) (fun y=>Mo y.2):=by
  intro n x hx;rw[hx];refine Rn.lp (fun s=>(s.1.length=o.bytes.data.length/\s.2.1.length=o.bytes.data.length)/\0<=s.2.2/\s.2.2<=z) (fun s=>(z-s.2.2).toNat) ⟨⟨rfl,ho.s⟩,qC 0,by dsimp only;omega⟩ (by dsimp only;omega) ?_;rintro⟨x10,x11,x12⟩ ⟨⟨i1,i2⟩,i3,i4⟩
  dsimp only at i1 i2 i3 i4⊢
  by_cases h1:x12<z
  . rw[c1 (dt h1),w64 (x:=p.Off+x12) (by omega)];obtain⟨s,es,_⟩:=J2 (l:=x11) (n:=p.Off+x12) (by omega);obtain⟨d,ed,_⟩:=J2 (l:=x10) (n:=p.Off+x12) (by omega);exact Rn.step (nn8 (by omega)) (Rn.step ed (Rn.step ed (Rn.step es (Rn.step es (Rn.ok ⟨⟨⟨by simpa using i1,by simpa using i2⟩,by dsimp only;rw[w64 (by omega)];omega⟩,by dsimp only;rw[w64 (by omega)];omega⟩)))))
  . rw[c0 (df h1)];exact Rn.ok (Rn.ok (h.put _ ⟨by dsimp only;omega,by dsimp only;omega⟩))
 cases v.Is with
 |false=>exact key v.Num q hq
 |true=>
  rw[c1 (b:=true) rfl];cases hpt:q.ptrs with
  |none=>
   rw[c1 (b:=Option.isNone (none:Option (List (Int×X9)))) rfl];exact Rn.step (x:=[]) rfl (key 0 ⟨q.bytes,some (Q9u _ p.Off v.Ptr),q.gone⟩ hq)
  |some l=>
   rw[c0 (b:=Option.isNone (some l)) rfl];exact Rn.step (x:=l) rfl (key 0 ⟨q.bytes,some (Q9u _ p.Off v.Ptr),q.gone⟩ hq)
theorem Part_any{m:Y5}(h:Mo m)(p:X9)(a z:Int):Rn (Q8c m p a z) (fun _=>True):=by
 unfold Q8c;refine Rn.bd (X0n h p) fun y hy=>?_;cases(y.2 !=0)with
 |true=>exact Rn.ok trivial
 |false=>
  rw[c0 (b:=false) rfl];obtain⟨w,ew⟩:∃w,Q9b p a z=some w:=⟨_,rfl⟩;refine Rn.step ew ?_;cases w<;>exact Rn.ok trivial
theorem Move_any{m:Y5}(h:Mo m)(p:X9)(a:Int):Rn (Q8d m p a) (fun _=>True):=by
 unfold Q8d;refine Rn.bd (X0n h p) fun y hy=>?_;cases(y.2 !=0)with
 |true=>exact Rn.ok trivial
 |false=>
  rw[c0 (b:=false) rfl];cases(decide (a<(qJ .i64 (p.Lo-p.Off)))||decide ((qJ .i64 (p.Hi-p.Off))<a))<;>exact Rn.ok trivial
def Rw(r:Z1):Prop:=r.out.Exit=0/\0<=r.out.Ins
structure Ri(X:Cx)(u:Q6a)(S:Nat)(B:Int)(r:Z1):Prop where
 u:r.u=u
 m:Mo r.mem
 f:0<=r.fuel
 d:0<=r.deep/\r.deep<=5000
 v:r.vars.length=S
 o:(r.out.Out.length:Int)+r.fuel<=B
 i:0<=r.out.Ins/\r.out.Ins+r.fuel<=B
 b:B<=10000000
 e:r.out.E=0
 x:r.out.Exit=0
 t:U32 r.ret.Num
 p:∀x∈r.inputs,U32 x
variable{X:Cx}{u:Q6a}{S:Nat}{B:Int}{r:Z1}
theorem Ri.w(h:Ri X u S B r):Rw r:=⟨h.x,h.i.1⟩
theorem Ri.mem(h:Ri X u S B r){m:Y5}(hm:Mo m):Ri X u S B {r with mem:=m}:=⟨h.u,hm,h.f,h.d,h.v,h.o,h.i,h.b,h.e,h.x,h.t,h.p⟩
structure Rx(X:Cx)(u:Q6a)(S:Nat)(B:Int)(r r':Z1):Prop where
 i:Ri X u S B r'
 d:r'.deep=r.deep
 f:r'.fuel<=r.fuel
def Rpq(X:Cx)(u:Q6a)(S:Nat)(B:Int)(r:Z1)(b:Bool)(r':Z1):Prop:=Rw r'/\(b=true->Rx X u S B r r')
theorem Rx.refl(h:Ri X u S B r):Rx X u S B r r:=⟨h,rfl,qC _⟩
theorem Rx.trans{a b c:Z1}{A:Int}{Q:Nat}(h:Rx X u Q A a b)(g:Rx X u S B b c):Rx X u S B a c:=⟨g.i,g.d.trans h.d,Int.le_trans g.f h.f⟩
theorem fine_any(h:Rw r)(e:Int):Rn (U6 r e) (fun y=>Rw y.2/\(y.1=true->y.2=r/\e=0)):=by
 unfold U6 J4
 dsimp only[jn]
 have key:∀k:Int,(k=0->e=0)->Rn (bif k !=0 then((bif r.out.E==0 then(some (false,{({r with out:={r.out with E:=k}}:Z1)with mem:=r.mem}))else(some (false,{r with mem:=r.mem}))).bind fun y1=>some (y1.1,y1.2))else(some (true,r))) (fun y=>Rw y.2/\(y.1=true->y.2=r/\e=0)):=fun k hk=>by
  by_cases h0:k=0
  . rw[c0 (by simpa using h0)];exact Rn.ok ⟨h,fun _=>⟨rfl,hk h0⟩⟩
  . rw[c1 (by simpa using h0)];cases r.out.E==0<;>exact Rn.ok ⟨h,fun e=>by cases e⟩
 by_cases h8:e=8
 . rw[c1 (by rw[h8];rfl)];exact key 16 (fun e=>by cases e)
 . rw[c0 (by simpa using h8)];exact key e id
theorem X1q(h:Rw r)(e:Int):Rn (J4 r e) (fun y=>Rw y.2/\y.1=false):=by
 unfold J4
 dsimp only[jn]
 cases r.out.E==0<;>exact Rn.ok ⟨h,rfl⟩
theorem Y6v(h:Ri X u S B r):Rn (V6 r) (fun y=>Rw y.2/\(y.1=true->Ri X u S (B-1) y.2/\y.2.deep=r.deep/\y.2.fuel<r.fuel/\y.2.vars=r.vars)):=by
 have hf:=h.f;have ho:=h.o;have hb:=h.b;have hi:=h.i;unfold V6;rw[c0 (by rw[h.e];rfl)]
 by_cases h0:r.fuel=0
 . rw[c1 (by rw[h0];rfl)];exact Rn.bd (X1q h.w 16) fun y hy=>Rn.ok ⟨hy.1,fun e=>by rw[hy.2]at e;cases e⟩
 . rw[c0 (by simpa using h0),w64 (by omega)];exact Rn.ok ⟨h.w,fun _=>⟨⟨h.u,h.m,by dsimp only;omega,h.d,h.v,by dsimp only;omega,by dsimp only;omega,by omega,h.e,h.x,h.t,h.p⟩,rfl,by dsimp only;omega,rfl⟩⟩
theorem Y6n(v:Y1)(n:Int):Rn (Q9n v n) (fun y=>U32 v.Num->U32 y.Num):=by
 unfold Q9n
 dsimp only[jn]
 cases(!v.Is)&&(n==1)with
 |true=>exact Rn.ok fun _=>by dsimp only;exact u32b _ _ _
 |false=>exact Rn.ok id
theorem Y6r(v:Y1):∃b,Q6x v=some b:=by unfold Q6x;cases v.Is<;>exact⟨_,rfl⟩
theorem Y1u(b:Bool):Rn (W4 b) (fun y=>U32 y.Num):=by unfold W4;cases b<;>exact Rn.ok (by unfold U32;decide)
theorem Z8k(f:Int){l:List Y1}(h1:1<=l.length)(hl:∀v∈l,U32 v.Num):Rn (Q6i f l) (fun y=>U32 y.1.Num):=by
 unfold Q6i
 dsimp only[jn]
 obtain⟨a,ea,ha⟩:=J2 (l:=l) (n:=0) (by omega);refine Rn.step ea ?_
 have key:∀b:Y1,U32 b.Num->Rn (bif a.Is then((Q6x a).bind fun y1=>bif y1 then(bif (qQ l:Int)==1 then((W4 (true==(f !=12))).bind fun y4=>some (y4,(0:Int)))else((Q6x b).bind fun y2=>(W4 (y2==(f !=12))).bind fun y3=>some (y3,(0:Int))))else((W4 (false==(f !=12))).bind fun y5=>some (y5,(0:Int))))else((Q7l f a.Num b.Num).bind fun y6=>(H8 y6.1).bind fun y7=>some (y7,y6.2))) (fun y=>U32 y.1.Num):=fun b hb=>by
  cases a.Is with
  |true=>
   obtain⟨x,ex⟩:=Y6r a;refine Rn.step ex ?_;cases x with
   |false=>exact Rn.bd (Y1u _) fun y hy=>Rn.ok hy
   |true=>
    rw[c1 (b:=true) rfl];cases(l.length:Int)==1 with
    |true=>exact Rn.bd (Y1u _) fun y hy=>Rn.ok hy
    |false=>
     obtain⟨x,ex⟩:=Y6r b;exact Rn.step ex (Rn.bd (Y1u _) fun y hy=>Rn.ok hy)
  |false=>
   obtain⟨y,e,ey,hu⟩:=Y5q f (hl a ha) hb;exact Rn.step ey (Rn.ok hu)
 by_cases h2:(1:Int)<l.length
 . rw[c1 (dt h2)];obtain⟨b,eb,hb⟩:=J2 (l:=l) (n:=1) (by omega);exact Rn.step eb (key b (hl b hb))
 . rw[c0 (df h2)];exact key _ Q4t
theorem Y5k(h:Mo r.mem)(p:X9)(a b c:Int):Rn (A7 r p a b c) (fun y=>U32 y.1.Num):=by
 unfold A7
 dsimp only[jn]
 cases c==2<;>exact Rn.bd (Move_any h _ _) fun y _=>Rn.ok Q4t
def Rv(X:Cx)(u:Q6a)(S:Nat)(B:Int)(r:Z1)(y:Y1×Int×Z1):Prop:=U32 y.1.Num/\Rx X u S B r y.2.2
theorem Ri.up(h:Ri X u S B r)(hB:B+1<=10000000):Ri X u S (B+1) r:=⟨h.u,h.m,h.f,h.d,h.v,by have:=h.o;omega,by have:=h.i;omega,hB,h.e,h.x,h.t,h.p⟩
theorem X3r(h:Ri X u S B r){v:Y1}(hv:U32 v.Num)(p:X9)(z:Int)(w:Y1):Rn ((I2 r.mem p z w).bind fun y=>some (v,y.1,({r with mem:=y.2}:Z1))) (Rv X u S B r):=
 Rn.bd (X4x h.m p z w) fun y hy=>Rn.ok ⟨hv,h.mem hy,rfl,qC _⟩
theorem X2o(h:Ri X u S B r){t:Y6}{l:List Y1}(hn:U32 t.Num)(h1:1<=l.length)(h2:t.Kind≠15->2<=l.length)(hl:∀v∈l,U32 v.Num):Rn (A4 r t l) (Rv X u S B r):=by
 unfold A4
 dsimp only[jn]
 obtain⟨a,ea,ha⟩:=J2 (l:=l) (n:=0) (by omega);refine Rn.step ea (Rn.bd (X3b h.m _ _ _) fun y hy=>?_)
 by_cases h0:y.2=0
 case neg=>rw[c1 (by simpa using h0)];exact Rn.ok ⟨Q4t,Rx.refl h⟩
 rw[c0 (by simpa using h0)]
 have key:∀(e:Int)(v:Y1),U32 v.Num->Rn (bif e !=0 then(some ((⟨0,(⟨0,0,0,0⟩:X9),false⟩:Y1),e,r))else((Q9n v t.Size).bind fun y6=>bif t.Post then((I2 r.mem a.Ptr t.Size y6).bind fun y7=>some (y.1,y7.1,{r with mem:=y7.2}))else((I2 r.mem a.Ptr t.Size y6).bind fun y8=>some (y6,y8.1,{r with mem:=y8.2})))) (Rv X u S B r):=fun e v hv=>by
  cases(e !=0)with
  |true=>exact Rn.ok ⟨Q4t,Rx.refl h⟩
  |false=>
   refine Rn.bd (Y6n v _) fun q hq=>?_;cases t.Post with
   |true=>exact X3r h hy _ _ _
   |false=>exact X3r h (hq hv) _ _ _
 by_cases h15:t.Kind=15
 . have hk:(t.Kind==15)=true:=by rw[h15];rfl
   rw[hk];cases t.Ptr with
   |true=>exact Rn.bd (Y5k h.m _ _ _ _) fun q hq=>key _ _ hq
   |false=>exact key y.2 ⟨qJ .u32 (y.1.Num+t.Num),⟨0,0,0,0⟩,false⟩ (Y3e _)
 . have hk:(t.Kind==15)=false:=by simpa using h15
   rw[hk];have h2':=h2 h15;obtain⟨b,eb,hb⟩:=J2 (l:=l) (n:=1) (by omega);cases t.Ptr with
   |true=>exact Rn.step eb (Rn.bd (Y5k h.m _ _ _ _) fun q hq=>key _ _ hq)
   |false=>exact Rn.step eb (Rn.bd (Z8k _ (by simp) (by intro v hv;simp only[qZ,List.not_mem_nil,or_false]at hv;rcases hv with rfl|rfl;exact hy;exact hl _ hb)) fun q hq=>key _ _ hq)
theorem told_any(hu:Uo X u)(h:Ri X u S B r)(hB:B+1<=10000000){t:Y6}{l:List Y1}(hn:U32 t.Num)(fo:No ⟨X.sig,X.G,S⟩ t)(hk:l.length=t.Kids.length)(hx:t.Kind≠1/\t.Kind≠7/\t.Kind≠8/\t.Kind≠9/\t.Kind≠10)(hl:∀v∈l,U32 v.Num):Rn (V4 r t l) (Rv X u S (B+1) r):=by
 have har:=fo.ar;have hi:=h.i;have ho:=h.o;have hf:=h.f;rw[<-hk]at har;have one:∀{k:Int},t.Kind=k->arT k=1->∃a,idx l 0=some a/\a∈l:=fun e e2=>J2 (by rw[e,e2]at har;omega);have two:∀{k:Int},t.Kind=k->arT k=2->(∃a,idx l 0=some a/\a∈l)/\∃a,idx l 1=some a/\a∈l:=fun e e2=>by rw[e,e2]at har;exact⟨J2 (by omega),J2 (by omega)⟩
 have same:∀{v:Y1}{e:Int},U32 v.Num->Rv X u S (B+1) r (v,e,r):=fun hv=>⟨hv,Rx.refl (h.up hB)⟩;have up:∀{y:Y1×Int×Z1},Rv X u S B r y->Rv X u S (B+1) r y:=fun hy=>⟨hy.1,hy.2.i.up hB,hy.2.d,hy.2.f⟩;unfold V4
 dsimp only[jn]
 by_cases k2:t.Kind=2
 . rw[c1 (by rw[k2];rfl)];have ha:=fo.ad k2;unfold Q3y;cases hg:t.Global with
   |true=>
    rw[hg,if_pos rfl]at ha;obtain⟨g,eg,_⟩:=J2 (l:=r.u.Globals) (n:=t.Var) ⟨ha.1,by rw[h.u,hu.g];exact ha.2⟩;exact Rn.bd (p:=fun _=>True) (Rn.step eg (Rn.ok trivial)) fun y _=>Rn.ok (same Q4t)
   |false=>
    rw[hg,if_neg (by decide)]at ha;obtain⟨g,eg,_⟩:=J2 (l:=r.vars) (n:=t.Var) ⟨ha.1,by rw[h.v];exact ha.2⟩;exact Rn.bd (p:=fun _=>True) (Rn.step eg (Rn.ok trivial)) fun y _=>Rn.ok (same Q4t)
 rw[c0 (by simpa using k2)]
 by_cases k3:t.Kind=3
 . rw[c1 (by rw[k3];rfl)];obtain⟨a,ea,ha⟩:=one k3 rfl;exact Rn.step ea (Rn.bd (X3b h.m _ _ _) fun y hy=>Rn.ok (same hy))
 rw[c0 (by simpa using k3)]
 by_cases k4:t.Kind=4
 . rw[c1 (by rw[k4];rfl)];obtain⟨⟨a,ea,ha⟩,b,eb,hb⟩:=two k4 rfl;exact Rn.step eb (Rn.bd (Y6n _ _) fun q hq=>Rn.step ea ((X3r h (hq (hl _ hb)) _ _ _).mono fun _=>up))
 rw[c0 (by simpa using k4)]
 by_cases k5:t.Kind=5
 . rw[c1 (by rw[k5];rfl),c1 (by rw[k5];rfl)];exact Rn.bd (Z8k _ (by rw[k5]at har;exact har) hl) fun y hy=>Rn.ok (same hy)
 rw[c0 (by simpa using k5)]
 by_cases k6:t.Kind=6
 . rw[c1 (by rw[k6];rfl)];exact Rn.bd (Z8k _ (by rw[k6]at har;exact jH (by decide) har) hl) fun y hy=>Rn.ok (same hy)
 rw[c0 (by simpa using k6)]
 by_cases k11:t.Kind=11
 . rw[c1 (by rw[k11];rfl)];obtain⟨a,ea,ha⟩:=one k11 rfl;exact Rn.step ea (Rn.step (B7 (by simp;omega)) (Rn.ok ⟨Q4t,⟨h.u,h.m,h.f,h.d,h.v,by dsimp only;rw[qW];simp;omega,by dsimp only;omega,hB,h.e,h.x,h.t,h.p⟩,rfl,qC _⟩))
 rw[c0 (by simpa using k11)]
 by_cases k12:t.Kind=12
 . rw[c1 (by rw[k12];rfl),w64 (x:=r.out.Ins+1) (by omega),w64 (x:=r.out.Ins+1-1) (by omega)];have rx:∀{v:Y1},U32 v.Num->Rv X u S (B+1) r (v,0,{r with out:={r.out with Ins:=r.out.Ins+1}}):=fun hv=>⟨hv,⟨h.u,h.m,h.f,h.d,h.v,by dsimp only;omega,by dsimp only;omega,hB,h.e,h.x,h.t,h.p⟩,rfl,qC _⟩
   by_cases h0:r.out.Ins+1<=r.inputs.length
   . rw[c1 (dt h0)];obtain⟨a,ea,ha⟩:=J2 (l:=r.inputs) (n:=r.out.Ins+1-1) (by omega);exact Rn.step ea (Rn.ok (rx (h.p a ha)))
   . rw[c0 (df h0)];exact Rn.ok (rx Q4t)
 rw[c0 (by simpa using k12)]
 by_cases k13:t.Kind=13
 . rw[c1 (by rw[k13];rfl)];obtain⟨a,ea,ha⟩:=one k13 rfl;exact Rn.step ea (Rn.bd (Part_any h.m _ _ _) fun y _=>Rn.ok (same Q4t))
 rw[c0 (by simpa using k13)]
 by_cases k14:t.Kind=14
 . rw[c1 (by rw[k14];rfl)];obtain⟨⟨a,ea,ha⟩,b,eb,hb⟩:=two k14 rfl;exact Rn.step ea (Rn.step eb (Rn.bd (Y5k h.m _ _ _ _) fun y hy=>Rn.ok (same hy)))
 rw[c0 (by simpa using k14)]
 by_cases k17:t.Kind=17
 . rw[c1 (by rw[k17];rfl)];obtain⟨a,ea,ha⟩:=one k17 rfl;exact Rn.step ea (Rn.bd (Y6n _ _) fun q hq=>Rn.ok (same (hq (hl _ ha))))
 rw[c0 (by simpa using k17)]
 have hlen:1<=l.length/\(t.Kind≠15->2<=l.length):=by
  have:arT t.Kind=if t.Kind=15 then 1 else 2:=by
   unfold arT;rw[if_neg (by omega),if_neg (by omega)]
   by_cases h15:t.Kind=15
   . rw[if_pos (by omega),if_pos h15]
   . rw[if_neg (by omega),if_neg h15]
  rw[this]at har
  split at har
  . exact⟨har,fun h=>by contradiction⟩
  . exact⟨by omega,fun _=>har⟩
 exact Rn.bd (X2o h hn hlen.1 hlen.2 hl) fun y hy=>Rn.ok (up hy)
variable{X:Cx}{u:Q6a}{S:Nat}{B:Int}{r:Z1}
theorem Ri.vars(h:Ri X u S B r)(l:List X9):Ri X u l.length B {r with vars:=l}:=⟨h.u,h.m,h.f,h.d,rfl,h.o,h.i,h.b,h.e,h.x,h.t,h.p⟩
theorem Y2h(h:Ri X u S B r)(e:Int):Rn (U6 r e) (fun y=>Rw y.2/\(y.1=true->y.2=r)):=(fine_any h.w e).mono fun y hy=>⟨hy.1,fun q=>(hy.2 q).1⟩
theorem X5w(h:Ri X u S B r){c:Q4n}(hc:c.Slots.length<=200){l:List Y1}(hl:l.length<=c.Slots.length)(hv:∀v∈l,U32 v.Num):Rn (M9 r c l) (fun y=>Rpq X u c.Slots.length B r y.1 y.2):=by
 unfold M9
 dsimp only[jn]
 refine Rn.lp (fun s=>(0<=s.1/\s.1<=c.Slots.length)/\(∃k:Nat,s.1=(k:Int)/\Rx X u k B r {s.2.1 with mem:=s.2.2})) (fun s=>c.Slots.length-s.1.toNat) ⟨⟨qC 0,by dsimp only;omega⟩,0,rfl,h.vars [],rfl,qC _⟩ (by dsimp only;omega) ?_;rintro⟨x4,x5,x6⟩ ⟨i1,k,rfl,i2⟩
 dsimp only at i1 i2⊢
 have hi:=i2.i
 by_cases h0:k<c.Slots.length
 . rw[c1 (dlt h0)];refine Rn.step (C1 h0) (Rn.bd (X3a hi.m _) fun y hy=>?_);have hm:=hi.mem hy;refine Rn.bd (Y2h hm _) fun q hq=>?_;cases hb:q.1 with
   |false=>exact Rn.ok (Rn.ok ⟨hq.1,fun e=>by cases e⟩)
   |true=>
    have e:=hq.2 hb;have hlv:=hm.v;rw[c0 (b:=!true) rfl,e]
    dsimp only at hlv⊢
    refine Rn.step (B7 (by simp;omega)) (Rn.ok ⟨⟨by dsimp only;rw[w64 (by omega)];omega,k+1,by dsimp only;rw[w64 (by omega)];omega,?_,i2.d,i2.f⟩,by dsimp only;rw[w64 (by omega)];omega⟩);have:=hm.vars (x5.vars++[y.1]);rw[qW,hlv]at this;exact this
 . have hk:k=c.Slots.length:=by omega
   subst hk;rw[c0 (dge _)];refine Rn.ok ?_;show Rn ((X5 _ NN _).bind _) _;refine Rn.lp (fun s=>(0<=s.2.1/\s.2.1<=l.length)/\Rx X u c.Slots.length B r {s.2.2 with mem:=⟨s.1⟩}) (fun s=>l.length-s.2.1.toNat) ⟨⟨qC 0,by dsimp only;omega⟩,i2⟩ (by dsimp only;omega) ?_;rintro⟨x12,x14,x15⟩ ⟨j1,j2⟩
   dsimp only at j1 j2⊢
   have hj:=j2.i;have hjv:=hj.v
   dsimp only at hjv
   by_cases h1:x14<l.length
   . rw[c1 (dt h1)];obtain⟨a,ea,ha⟩:=J2 ⟨j1.1,h1⟩;obtain⟨p,ep,_⟩:=J2 (l:=x15.vars) (n:=x14) (by omega);obtain⟨q,eq,_⟩:=J2 (l:=c.Slots) (n:=x14) (by omega);refine Rn.step ea (Rn.step ep (Rn.step eq (Rn.step eq (Rn.bd (Y6n a _) fun w hw=>Rn.bd (X4x hj.m _ _ _) fun y hy=>?_))));have hm:=hj.mem hy;refine Rn.bd (Y2h hm _) fun q hq=>?_;cases hb:q.1 with
     |false=>exact Rn.ok (Rn.ok ⟨hq.1,fun e=>by cases e⟩)
     |true=>
      have e:=hq.2 hb;rw[c0 (b:=!true) rfl,e];exact Rn.ok ⟨⟨by dsimp only;rw[w64 (by omega)];omega,hm,j2.d,j2.f⟩,by dsimp only;rw[w64 (by omega)];omega⟩
   . rw[c0 (df h1)];exact Rn.ok (Rn.ok ⟨hj.w,fun _=>j2⟩)
theorem X6g(hu:Uo X u)(h:Ri X u S B r):Rn (F2 r) (fun y=>Rpq X u S B r y.1 y.2):=by
 have hg:=hu.g;have hd:=hu.d;have hx:=hu.l;unfold F2
 dsimp only[jn]
 rw[h.u];refine Rn.lp (fun s=>(0<=s.1/\s.1<=u.Globals.length)/\Rx X u S B r {s.2.1 with mem:=s.2.2}) (fun s=>u.Globals.length-s.1.toNat) ⟨⟨qC 0,by dsimp only;omega⟩,Rx.refl h⟩ (by dsimp only;omega) ?_;rintro⟨x3,x4,x5⟩ ⟨i1,i2⟩
 dsimp only at i1 i2⊢
 have hi:=i2.i
 by_cases h0:x3<u.Globals.length
 . rw[c1 (dt h0)];obtain⟨g,eg,_⟩:=J2 ⟨i1.1,h0⟩;refine Rn.step eg (Rn.bd (X3a hi.m _) fun y hy=>?_);have hm:=hi.mem hy;refine Rn.bd (Y2h hm _) fun q hq=>?_;cases hb:q.1 with
   |false=>exact Rn.ok (Rn.ok ⟨hq.1,fun e=>by cases e⟩)
   |true=>
    rw[c0 (b:=!true) rfl,hq.2 hb]
    dsimp only
    have hxu:x4.u=u:=hi.u;obtain⟨d,ed,_⟩:=J2 (l:=x4.u.Data) (n:=x3) (by rw[hxu];omega);refine Rn.step ed (Rn.bd (Fill_any hy _ _) fun z hz=>?_);have hm2:=hi.mem hz;refine Rn.bd (Y2h hm2 _) fun q2 hq2=>?_;cases hb2:q2.1 with
    |false=>exact Rn.ok (Rn.ok ⟨hq2.1,fun e=>by cases e⟩)
    |true=>
     rw[c0 (b:=!true) rfl,hq2.2 hb2];exact Rn.ok ⟨⟨by dsimp only;rw[w64 (by omega)];omega,hm2,i2.d,i2.f⟩,by dsimp only;rw[w64 (by omega)];omega⟩
 . rw[c0 (df h0)];exact Rn.ok (Rn.ok ⟨hi.w,fun _=>i2⟩)
def Dr(r:Z1):Nat:=(5000-r.deep).toNat*2000000
def cSq(X:Cx)(S:Nat):Cx:=⟨X.sig,X.G,S⟩
def Rk(X:Cx)(u:Q6a)(S:Nat)(B:Int)(r:Z1)(y:Int×Z1):Prop:=Rw y.2/\(y.1≠4->Rx X u S B r y.2)
def Rt(X:Cx)(u:Q6a)(S:Nat)(B:Int)(r:Z1)(y:Y1×Bool×Z1):Prop:=U32 y.1.Num/\Rpq X u S B r y.2.1 y.2.2
structure S7(X:Cx)(u:Q6a)(n:Nat):Prop where
 terms:∀S B r k (l:List Y6),Ri X u S B r->(∀t∈l,Dp (cSq X S) k t)->l.length<=100000->Dr r+10*k+6<=n->Rn ((D7 n).F1 r l) (fun y=>(y.2.1=true->y.1.length=l.length/\∀v∈y.1,U32 v.Num)/\Rpq X u S B r y.2.1 y.2.2)
 term:∀S B r k t,Ri X u S B r->Dp (cSq X S) k t->Dr r+10*k+5<=n->Rn ((D7 n).X2 r t) (Rt X u S B r)
 asked:∀S B r k t,Ri X u S B r->Dp (cSq X S) k t->Dr r+10*k+6<=n->Rn ((D7 n).V2 r t) (fun y=>Rpq X u S B r y.2.1 y.2.2)
 loop:∀S B r k a,Ri X u S B r->Ad (cSq X S) (k+1) a->Dr r+20*k+700115<=n->Rn ((D7 n).E1 r a) (Rk X u S B r)
 choose:∀S B r k a,Ri X u S B r->Ad (cSq X S) (k+1) a->a.Kind=4->Dr r+20*k+700115<=n->Rn ((D7 n).G6 r a) (Rk X u S B r)
 act:∀S B r k a,Ri X u S B r->Ad (cSq X S) k a->Dr r+20*k+700100<=n->Rn ((D7 n).B9 r a) (Rk X u S B r)
 acts:∀S B r k (l:List K1),Ri X u S B r->(∀a∈l,Ad (cSq X S) k a)->l.length<=1000000000->Dr r+20*k+700101<=n->Rn ((D7 n).V5 r l) (Rk X u S B r)
 call:∀S B r (v m:Nat)(l:List Y1)(p:Bool),Ri X u S B r->X.sig[v]?=some m->l.length<=m->(∀v∈l,U32 v.Num)->Dr r+2<=n->Rn ((D7 n).K5 r (v:Int) l p) (Rt X u S B r)
theorem Rx.dr{A:Int}{Q:Nat}{r':Z1}(h:Rx X u Q A r r'):Dr r'=Dr r:=by unfold Dr;rw[h.d]
variable{n:Nat}
theorem terms_s7(h:S7 X u n):∀S B r k (l:List Y6),Ri X u S B r->(∀t∈l,Dp (cSq X S) k t)->l.length<=100000->Dr r+10*k+6<=n+1->Rn ((D7 (n+1)).F1 r l) (fun y=>(y.2.1=true->y.1.length=l.length/\∀v∈y.1,U32 v.Num)/\Rpq X u S B r y.2.1 y.2.2):=by
 intro S B r k l hr hl hll hn;show Rn (P0 (D7 n) r l) _;unfold P0;refine Rn.lp (fun s=>(0<=s.2.1/\s.2.1<=l.length)/\((s.1.length:Int)=s.2.1/\∀v∈s.1,U32 v.Num)/\Rx X u S B r {s.2.2.1 with mem:=s.2.2.2}) (fun s=>l.length-s.2.1.toNat) ⟨⟨qC 0,by dsimp only;omega⟩,⟨rfl,P5⟩,Rx.refl hr⟩ (by dsimp only;omega) ?_;rintro⟨x1,x4,x5,x6⟩ ⟨i1,i2,i3⟩
 dsimp only at i1 i2 i3⊢
 have hd:=i3.dr
 by_cases h0:x4<l.length
 . rw[c1 (dt h0)];obtain⟨t,et,ht⟩:=J2 ⟨i1.1,h0⟩;refine Rn.step et (Rn.bd (h.term S B _ k t i3.i (hl t ht) (by omega)) fun y hy=>?_);cases hb:y.2.1 with
   |false=>exact Rn.ok (Rn.ok ⟨fun e=>(by cases e),hy.2.1,fun e=>by cases e⟩)
   |true=>
    refine Rn.step (B7 (by simp;omega)) (Rn.ok ⟨⟨by dsimp only;rw[w64 (by omega)];omega,⟨by dsimp only;rw[w64 (by omega),qW];simp;omega,fun v hv=>?_⟩,i3.trans (hy.2.2 hb)⟩,by dsimp only;rw[w64 (by omega)];omega⟩)
    rcases jQ.1 hv with hv|hv
    . exact i2.2 v hv
    . rw[kQ.1 hv];exact hy.1
 . rw[c0 (df h0)];exact Rn.ok (Rn.ok ⟨fun _=>⟨by dsimp only;omega,i2.2⟩,i3.i.w,fun _=>i3⟩)
theorem asked_s7(h:S7 X u n):∀S B r k t,Ri X u S B r->Dp (cSq X S) k t->Dr r+10*k+6<=n+1->Rn ((D7 (n+1)).V2 r t) (fun y=>Rpq X u S B r y.2.1 y.2.2):=by
 intro S B r k t hr ht hn;show Rn (P1 (D7 n) r t) _;unfold P1;refine Rn.bd (h.term S B r k t hr ht (by omega)) fun y hy=>?_;obtain⟨b,hb⟩:=Y6r y.1;exact Rn.step hb (Rn.ok hy.2)
theorem Rpq.of{A:Int}{a b:Z1}(h:Rx X u S A r a){c:Bool}(g:Rpq X u S A a c b)(hA:A<=B)(hB:B<=10000000):Rpq X u S B r c b:=⟨g.1,fun e=>by
 have:=h.trans (g.2 e)
 have hi:=this.i
 exact⟨⟨hi.u,hi.m,hi.f,hi.d,hi.v,by have:=hi.o;omega,by have:=hi.i;omega,hB,hi.e,hi.x,hi.t,hi.p⟩,this.d,this.f⟩⟩
theorem Dp.kids{k:Nat}{t:Y6}(h:Dp X k t):∃j,k=j+1/\(∀q∈t.Kids,Dp X j q)/\U32 t.Num/\t.Kids.length<=100000/\No X t:=match h with| .mk a b c d=>⟨_,rfl,a,b,c,d⟩
theorem term_s7(hu:Uo X u)(h:S7 X u n):∀S B r k t,Ri X u S B r->Dp (cSq X S) k t->Dr r+10*k+5<=n+1->Rn ((D7 (n+1)).X2 r t) (Rt X u S B r):=by
 intro S B r k t hr ht hn;obtain⟨j,rfl,hk,hnu,hkl,fo⟩:=ht.kids;have har:=fo.ar;have hB:=hr.b;show Rn (B0 (D7 n) r t) _;unfold B0
 dsimp only[jn]
 refine Rn.bd (Y6v hr) fun y hy=>?_;cases hb:y.1 with
 |false=>exact Rn.ok ⟨Q4t,hy.1,fun e=>by cases e⟩
 |true=>
 obtain⟨h1,h2,h3,h4⟩:=hy.2 hb;rw[c0 (b:=!true) rfl];have rx:Rx X u S (B-1) r y.2:=⟨h1,h2,by omega⟩;have hd:=rx.dr;have up:∀{v:Y1}{c:Bool}{z:Z1},U32 v.Num->Rpq X u S (B-1) y.2 c z->Rt X u S B r (v,c,z):=fun hv g=>⟨hv,Rpq.of rx g (by omega) hB⟩;have on:∀{v:Y1},U32 v.Num->Rt X u S B r (v,true,y.2):=fun hv=>up hv ⟨h1.w,fun _=>Rx.refl h1⟩
 by_cases k1:t.Kind=1
 . rw[c1 (by rw[k1];rfl)];cases t.Ptr with
   |true=>exact Rn.ok (on Q4t)
   |false=>exact Rn.ok (on hnu)
 rw[c0 (by simpa using k1)];have kid:∀{i:Nat},i<t.Kids.length->∃q,idx t.Kids (i:Int)=some q/\Dp (cSq X S) j q:=fun hi=>⟨_,C1 hi,hk _ (jT hi)⟩
 have two:∀b7:Bool,2<=t.Kids.length->Rn ((idx t.Kids 0).bind fun u1=>((D7 n).V2 y.2 u1).bind fun y4=>bif (y4.2.1&&(y4.1==b7))then((idx t.Kids 1).bind fun u2=>((D7 n).V2 y4.2.2 u2).bind fun y5=>(W4 y5.1).bind fun y6=>some (y6,y5.2.1,{y5.2.2 with mem:=y5.2.2.mem}))else((W4 y4.1).bind fun y6=>some (y6,y4.2.1,{y4.2.2 with mem:=y4.2.2.mem}))) (Rt X u S B r):=fun b7 hl=>by
  obtain⟨a,ea,ha⟩:=kid (i:=0) (by omega);obtain⟨b,eb,hb⟩:=kid (i:=1) (by omega);refine Rn.step ea (Rn.bd (h.asked S (B-1) y.2 j a h1 ha (by omega)) fun z hz=>?_);cases hc:(z.2.1&&(z.1==b7))with
  |false=>exact Rn.bd (Y1u _) fun v hv=>Rn.ok (up hv hz)
  |true=>
   rw[qM]at hc;have rz:=hz.2 hc.1;have hdz:=rz.dr;exact Rn.step eb (Rn.bd (h.asked S (B-1) _ j b rz.i hb (by omega)) fun w hw=>Rn.bd (Y1u _) fun v hv=>Rn.ok (up hv (Rpq.of rz hw (qC _) (by omega))))
 by_cases k7:t.Kind=7
 . have e:(t.Kind==7)=true:=by rw[k7];rfl
   rw[e];exact two true (by rw[k7]at har;exact har)
 have e7:(t.Kind==7)=false:=by simpa using k7
 rw[e7]
 by_cases k8:t.Kind=8
 . have e:(t.Kind==8)=true:=by rw[k8];rfl
   rw[e];exact two false (by rw[k8]at har;exact har)
 have e8:(t.Kind==8)=false:=by simpa using k8
 rw[e8,c0 (b:=false) rfl,c0 (b:=false) rfl]
 by_cases k9:t.Kind=9
 . rw[c1 (by rw[k9];rfl)];have hl:3<=t.Kids.length:=by rw[k9]at har;exact har
   obtain⟨a,ea,ha⟩:=kid (i:=0) (by omega);obtain⟨b,eb,hb⟩:=kid (i:=1) (by omega);obtain⟨c,ec,hc⟩:=kid (i:=2) (by omega);refine Rn.step ea (Rn.bd (h.asked S (B-1) y.2 j a h1 ha (by omega)) fun z hz=>?_);cases hq:z.2.1 with
   |false=>exact Rn.ok (up Q4t ⟨hz.1,fun e=>by cases e⟩)
   |true=>
    have rz:=hz.2 hq;have hdz:=rz.dr;rw[c0 (b:=!true) rfl];cases z.1 with
    |true=>exact Rn.step eb (Rn.bd (h.term S (B-1) _ j b rz.i hb (by omega)) fun w hw=>Rn.ok (up hw.1 (Rpq.of rz hw.2 (qC _) (by omega))))
    |false=>exact Rn.step ec (Rn.bd (h.term S (B-1) _ j c rz.i hc (by omega)) fun w hw=>Rn.ok (up hw.1 (Rpq.of rz hw.2 (qC _) (by omega))))
 rw[c0 (by simpa using k9)];refine Rn.bd (h.terms S (B-1) y.2 j t.Kids h1 hk hkl (by omega)) fun z hz=>?_;cases hq:z.2.1 with
 |false=>exact Rn.ok (up Q4t ⟨hz.2.1,fun e=>by cases e⟩)
 |true=>
 have rz:=hz.2.2 hq;have hdz:=rz.dr;obtain⟨l1,l2⟩:=hz.1 hq;rw[c0 (b:=!true) rfl]
 by_cases k10:t.Kind=10
 . rw[c1 (by rw[k10];rfl)];obtain⟨v,ev,em⟩:=fo.ca k10;rw[ev];exact Rn.bd (h.call S (B-1) _ v _ z.1 t.Ptr rz.i em (by omega) l2 (by omega)) fun w hw=>Rn.ok (up hw.1 (Rpq.of rz hw.2 (qC _) (by omega)))
 . rw[c0 (by simpa using k10)];refine Rn.bd (told_any hu rz.i (by omega) hnu fo l1 ⟨k1,k7,k8,k9,k10⟩ l2) fun w hw=>?_;refine Rn.bd (Y2h hw.2.i _) fun q hq2=>Rn.ok ⟨hw.1,hq2.1,fun e=>?_⟩;have e2:=hq2.2 e
   dsimp only at e2⊢
   rw[e2];have:=(rx.trans rz).trans hw.2;rw[show B-1+1=B by omega]at this;exact this
variable{X:Cx}{u:Q6a}{S:Nat}{B:Int}{r:Z1}{n:Nat}
theorem Rk.of{a:Z1}(h:Rx X u S B r a){y:Int×Z1}(g:Rk X u S B a y):Rk X u S B r y:=⟨g.1,fun e=>h.trans (g.2 e)⟩
theorem acts_s7(h:S7 X u n):∀S B r k (l:List K1),Ri X u S B r->(∀a∈l,Ad (cSq X S) k a)->l.length<=1000000000->Dr r+20*k+700101<=n+1->Rn ((D7 (n+1)).V5 r l) (Rk X u S B r):=by
 intro S B r k l hr hl hll hn;show Rn (N3 (D7 n) r l) _;unfold N3;refine Rn.lp (fun s=>(0<=s.1/\s.1<=l.length)/\Rx X u S B r {s.2.1 with mem:=s.2.2}) (fun s=>l.length-s.1.toNat) ⟨⟨qC 0,by dsimp only;omega⟩,Rx.refl hr⟩ (by dsimp only;omega) ?_;rintro⟨x3,x4,x5⟩ ⟨i1,i2⟩
 dsimp only at i1 i2⊢
 have hd:=i2.dr
 by_cases h0:x3<l.length
 . rw[c1 (dt h0)];obtain⟨a,ea,ha⟩:=J2 ⟨i1.1,h0⟩;refine Rn.step ea (Rn.bd (h.act S B _ k a i2.i (hl a ha) (by omega)) fun y hy=>?_)
   by_cases h1:y.1=0
   . rw[c0 (by simpa using h1)];exact Rn.ok ⟨⟨by dsimp only;rw[w64 (by omega)];omega,i2.trans (hy.2 (by omega))⟩,by dsimp only;rw[w64 (by omega)];omega⟩
   . rw[c1 (by simpa using h1)];exact Rn.ok (Rn.ok (Rk.of i2 hy))
 . rw[c0 (df h0)];exact Rn.ok (Rn.ok ⟨i2.i.w,fun _=>i2⟩)
theorem Ad.parts{k:Nat}{a:K1}(h:Ad X k a):∃j,k=j+1/\(∀t∈a.A,Dp X 70000 t)/\(∀t∈a.Post,Dp X 70000 t)/\(∀x∈a.Body,Ad X j x)/\(∀x∈a.Else,Ad X j x)/\(∀c∈a.Cases,∀x∈c.Body,Ad X j x)/\Al a/\Ao X a:=match h with| .mk a b c d e f g=>⟨_,rfl,a,b,c,d,e,f,g⟩
theorem posts_lp(h:S7 X u n){Z:Type}{P:Z->Prop}{l:List Y6}(hr:Ri X u S B r)(hl:∀t∈l,Dp (cSq X S) 70000 t)(hll:l.length<=1000000000)(hn:Dr r+700006<=n+1){f:Lp (Int×Z1×Y5) (Int×Z1)->Option Z}
 (hf:∀(k:Int)(x:Z1)(m:Y5),Rx X u S B r {x with mem:=m}->Rn (f (.brk (k,{x with mem:=m},m))) P) (hs:∀x,Rw x->Rn (f (.ret (4,x))) P):Rn ((X5 (fun(x14,x15,x16)=>(bif decide (x14<(qQ l:Int))then((idx l x14).bind fun u2=>((D7 n).X2 ({x15 with mem:=x16}) u2).bind fun y2=>bif !y2.2.1 then(some (Lp.ret ((4:Int),y2.2.2)))else(some (Lp.go (qJ .i64 (x14+1),y2.2.2,y2.2.2.mem))))else(some (Lp.brk (x14,{x15 with mem:=x16},x16))):Option (Lp (Int×Z1×Y5) (Int×Z1)))) NN ((0:Int),r,r.mem)).bind f) P:=by
 refine Rn.lp (fun s=>(0<=s.1/\s.1<=l.length)/\Rx X u S B r {s.2.1 with mem:=s.2.2}) (fun s=>l.length-s.1.toNat) ⟨⟨qC 0,by dsimp only;omega⟩,Rx.refl hr⟩ (by dsimp only;omega) ?_;rintro⟨x3,x4,x5⟩ ⟨i1,i2⟩
 dsimp only at i1 i2⊢
 have hd:=i2.dr
 by_cases h0:x3<l.length
 . rw[c1 (dt h0)];obtain⟨a,ea,ha⟩:=J2 ⟨i1.1,h0⟩;refine Rn.step ea (Rn.bd (h.term S B _ 70000 a i2.i (hl a ha) (by omega)) fun y hy=>?_);cases hb:y.2.1 with
   |false=>exact Rn.ok (hs _ hy.2.1)
   |true=>exact Rn.ok ⟨⟨by dsimp only;rw[w64 (by omega)];omega,i2.trans (hy.2.2 hb)⟩,by dsimp only;rw[w64 (by omega)];omega⟩
 . rw[c0 (df h0)];exact Rn.ok (hf x3 x4 x5 i2)
theorem loop_s7(h:S7 X u n):∀S B r k a,Ri X u S B r->Ad (cSq X S) (k+1) a->Dr r+20*k+700115<=n+1->Rn ((D7 (n+1)).E1 r a) (Rk X u S B r):=by
 intro S B r k a hr ha hn;obtain⟨j,ej,hA,hP,hb,_,_,al,ao⟩:=ha.parts;cases ej;show Rn (N1 (D7 n) r a) _;unfold N1
 dsimp only[jn]
 have hrb:=hr.b;have hro:=hr.o;have hrf:=hr.f;refine Rn.lp (fun s=>Rx X u S B r {s.2.1 with mem:=s.2.2}) (fun s=>s.2.1.fuel.toNat) (Rx.refl hr) (by dsimp only;omega) ?_;rintro⟨x3,x4,x5⟩ i2
 dsimp only at i2⊢
 have hd:=i2.dr;have al1:=al.A;have al2:=al.P;refine Rn.lp (fun s=>(0<=s.1/\s.1<=a.A.length)/\Rx X u S B {x4 with mem:=x5} {s.2.1 with mem:=s.2.2}) (fun s=>a.A.length-s.1.toNat) ⟨⟨qC 0,by dsimp only;omega⟩,Rx.refl i2.i⟩ (by dsimp only;omega) ?_;rintro⟨x8,x9,x10⟩ ⟨j1,j2⟩
 dsimp only at j1 j2⊢
 have hd2:=j2.dr
 have rest:∀k8:Int,Rn (((D7 n).V5 ({x9 with mem:=x10}) a.Body).bind fun y1=>bif y1.1==1 then(some (Lp.brk (true,y1.2,y1.2.mem)))else(bif y1.1==3 then(bif y1.1==3 then(some (Lp.ret (y1.1,y1.2)))else((X5 (fun(x14,x15,x16)=>(bif decide (x14<(qQ a.Post:Int))then((idx a.Post x14).bind fun u2=>((D7 n).X2 ({x15 with mem:=x16}) u2).bind fun y2=>bif !y2.2.1 then(some (Lp.ret ((4:Int),y2.2.2)))else(some (Lp.go (qJ .i64 (x14+1),y2.2.2,y2.2.2.mem))))else(some (Lp.brk (x14,{x15 with mem:=x16},x16))):Option (Lp (Int×Z1×Y5) (Int×Z1)))) NN ((0:Int),y1.2,y1.2.mem)).bind fun o=>o.thn (fun(x14,x15,x16)=>(V6 ({x15 with mem:=x16})).bind fun y3=>bif !y3.1 then(some (Lp.ret ((4:Int),y3.2)))else(some (Lp.go (true,y3.2,y3.2.mem)))) (fun r=>some (Lp.ret r))))else(bif y1.1==4 then(some (Lp.ret (y1.1,y1.2)))else((X5 (fun(x14,x15,x16)=>(bif decide (x14<(qQ a.Post:Int))then((idx a.Post x14).bind fun u2=>((D7 n).X2 ({x15 with mem:=x16}) u2).bind fun y2=>bif !y2.2.1 then(some (Lp.ret ((4:Int),y2.2.2)))else(some (Lp.go (qJ .i64 (x14+1),y2.2.2,y2.2.2.mem))))else(some (Lp.brk (x14,{x15 with mem:=x16},x16))):Option (Lp (Int×Z1×Y5) (Int×Z1)))) NN ((0:Int),y1.2,y1.2.mem)).bind fun o=>o.thn (fun(x14,x15,x16)=>(V6 ({x15 with mem:=x16})).bind fun y3=>bif !y3.1 then(some (Lp.ret ((4:Int),y3.2)))else(some (Lp.go (true,y3.2,y3.2.mem)))) (fun r=>some (Lp.ret r)))))) (Nr (fun s=>Rx X u S B r {s.2.1 with mem:=s.2.2}) (fun s=>s.2.1.fuel.toNat) (x3,x4,x5) (fun o=>o.thn (fun(x3,x4,x5)=>some ((0:Int),{x4 with mem:=x5})) (fun r=>some r)) (Rk X u S B r)):=fun k8=>by
  have hall:=i2.trans j2;refine Rn.bd (h.acts S B _ k a.Body j2.i hb al.b (by omega)) fun y hy=>?_
  by_cases e1:y.1=1
  . rw[c1 (by rw[e1];rfl)];have:=hall.trans (hy.2 (by omega));exact Rn.ok (Rn.ok ⟨this.i.w,fun _=>this⟩)
  rw[c0 (by simpa using e1)]
  by_cases e3:y.1=3
  . rw[c1 (by rw[e3];rfl),c1 (by rw[e3];rfl)];exact Rn.ok (Rn.ok (Rk.of hall hy))
  rw[c0 (by simpa using e3)]
  by_cases e4:y.1=4
  . rw[c1 (by rw[e4];rfl)];exact Rn.ok (Rn.ok (Rk.of hall hy))
  rw[c0 (by simpa using e4)];have ry:=hy.2 e4;have hd3:=ry.dr;refine posts_lp h ry.i hP al2 (by omega) (fun k x m hx=>?_) (fun x hx=>Rn.ok (Rn.ok ⟨hx,fun e=>absurd rfl e⟩));have rall:=(hall.trans ry).trans hx;have f1:=ry.f;have f2:=hx.f;have f3:=j2.f
  dsimp only at f1 f2 f3
  dsimp only[Lp.thn]
  refine Rn.bd (Y6v rall.i) fun z hz=>?_;cases hb3:z.1 with
  |false=>exact Rn.ok (Rn.ok ⟨hz.1,fun e=>absurd rfl e⟩)
  |true=>
   obtain⟨g1,g2,g3,_⟩:=hz.2 hb3;have gf:=g1.f
   dsimp only at g2 g3
   refine Rn.ok ⟨?_,by dsimp only;omega⟩;have hB:=g1.up (by omega);rw[show B-1+1=B by omega]at hB;exact⟨hB,g2.trans rall.d,by have:=rall.f;dsimp only at this⊢;omega⟩
 by_cases h0:x8<a.A.length
 . rw[c1 (dt h0)];obtain⟨t,et,ht⟩:=J2 ⟨j1.1,h0⟩;refine Rn.step et ?_;cases x3 with
   |false=>exact Rn.ok (rest x8)
   |true=>
    rw[c0 (b:=!true) rfl];refine Rn.bd (h.asked S B _ 70000 t j2.i (hA t ht) (by omega)) fun y hy=>?_;cases hq:y.2.1 with
    |false=>exact Rn.ok (Rn.ok (Rn.ok ⟨hy.1,fun e=>absurd rfl e⟩))
    |true=>
     have ry:=hy.2 hq;rw[c0 (b:=!true) rfl];cases y.1 with
     |false=>
      have:=(i2.trans j2).trans ry;exact Rn.ok (Rn.ok (Rn.ok ⟨this.i.w,fun _=>this⟩))
     |true=>exact Rn.ok ⟨⟨by dsimp only;rw[w64 (by omega)];omega,j2.trans ry⟩,by dsimp only;rw[w64 (by omega)];omega⟩
 . rw[c0 (df h0)];exact Rn.ok (rest x8)
theorem X4u{Z:Type}{P:Z->Prop}{m:Nat}(hm:m<=1000000000){body:Int×Int->Option (Lp (Int×Int) Unit)}{f:Lp (Int×Int) Unit->Option Z}(hb:∀x y:Int,0<=x/\x<=(m:Int)->0<=y/\y<(m:Int)->∃x':Int,body (x,y)=some (.go (x',qJ .i64 (y-1)))/\0<=x'/\x'<=(m:Int))(he:∀x y:Int,y<0->body (x,y)=some (.brk (x,y))){x0:Int}(h0:0<=x0/\x0<=m)(hf:∀x y:Int,0<=x/\x<=(m:Int)->Rn (f (.brk (x,y))) P):Rn ((X5 body NN (x0,qJ .i64 ((m:Int)-1))).bind f) P:=by
 refine Rn.lp (fun s=>(0<=s.1/\s.1<=m)/\ -1<=s.2/\s.2<m) (fun s=>(s.2+1).toNat) ⟨h0,by dsimp only;rw[w64 (by omega)];omega⟩ (by dsimp only;rw[w64 (by omega)];omega) ?_;rintro⟨x,y⟩ ⟨i1,i2⟩
 dsimp only at i1 i2⊢
 by_cases h:0<=y
 . obtain⟨x',e,h1⟩:=hb x y i1 (by omega);rw[e];exact Rn.ok ⟨⟨h1,by dsimp only;rw[w64 (by omega)];omega⟩,by dsimp only;rw[w64 (by omega)];omega⟩
 . rw[he x y (by omega)];exact Rn.ok (hf x y i1)
theorem X5y(h:S7 X u n):∀S B r k a,Ri X u S B r->Ad (cSq X S) (k+1) a->a.Kind=4->Dr r+20*k+700115<=n+1->Rn ((D7 (n+1)).G6 r a) (Rk X u S B r):=by
 intro S B r k a hr ha h4 hn;obtain⟨j,ej,hA,_,_,_,hc,al,ao⟩:=ha.parts;cases ej;have alc:=al.c;show Rn (D8 (D7 n) r a) _;unfold D8
 dsimp only[jn]
 obtain⟨t,et,ht⟩:=at0 (ao.i (.inr h4));refine Rn.step et (Rn.bd (h.term S B r 70000 t hr (hA t ht) (by omega)) fun y hy=>?_);cases hq:y.2.1 with
 |false=>exact Rn.ok ⟨hy.2.1,fun e=>absurd rfl e⟩
 |true=>
 have ry:=hy.2.2 hq;have hd:=ry.dr;rw[c0 (b:=!true) rfl];refine X4u alc (fun x y hx hy=>?_) (fun x y hy=>c0 (df (by omega))) (by omega) (fun x1 x2 hx=>?_)
 . obtain⟨c,ec,_⟩:=J2 (l:=a.Cases) (n:=y) hy;refine⟨bif c.Default then y else x,?_,?_⟩
   . dsimp only
     rw[c1 (dt hy.1),ec,qV];cases c.Default<;>rfl
   . cases c.Default
     . exact hx
     . show 0<=y/\y<=_;omega
 show Rn ((X5 _ NN _).bind _) _;refine X4u alc (fun x z hx hz=>?_) (fun x y hy=>c0 (df (by omega))) hx (fun x4 x5 hx4=>?_)
 . obtain⟨c,ec,_⟩:=J2 (l:=a.Cases) (n:=z) hz;refine⟨bif !c.Default&&c.Num==y.1.Num then z else x,?_,?_⟩
   . dsimp only
     rw[c1 (dt hz.1),ec,qV,qV];cases c.Default<;>cases c.Num==y.1.Num<;>rfl
   . cases !c.Default&&c.Num==y.1.Num
     . exact hx
     . show 0<=z/\z<=_;omega
 dsimp only[Lp.thn]
 obtain⟨l,el,hl⟩:∃l,sub a.Cases x4 (a.Cases.length:Int)=some l/\(∀c∈l,c∈a.Cases)/\l.length<=a.Cases.length:=⟨_,by unfold sub;rw[if_pos (by omega)],fun c hc=>List.mem_of_mem_take (List.mem_of_mem_drop hc),by simp⟩;refine Rn.step el ?_;refine Rn.lp (fun s=>(0<=s.1/\s.1<=l.length)/\Rx X u S B r {s.2.1 with mem:=s.2.2}) (fun s=>l.length-s.1.toNat) ⟨⟨qC 0,by dsimp only;omega⟩,ry⟩ (by dsimp only;omega) ?_;rintro⟨x9,x10,x11⟩ ⟨i1,i2⟩
 dsimp only at i1 i2⊢
 have hd2:=i2.dr
 by_cases h0:x9<l.length
 . rw[c1 (dt h0)];obtain⟨c,ec,hcm⟩:=J2 ⟨i1.1,h0⟩;have hcc:=hl.1 c hcm;refine Rn.step ec (Rn.bd (h.acts S B _ k c.Body i2.i (hc c hcc) (al.cb c hcc) (by omega)) fun z hz=>?_)
   by_cases e1:z.1=1
   . rw[c1 (by rw[e1];rfl)];have:=i2.trans (hz.2 (by omega));exact Rn.ok (Rn.ok ⟨this.i.w,fun _=>this⟩)
   rw[c0 (by simpa using e1)]
   by_cases e0:z.1=0
   . rw[c1 (by rw[e0];rfl)];exact Rn.ok ⟨⟨by dsimp only;rw[w64 (by omega)];omega,i2.trans (hz.2 (by omega))⟩,by dsimp only;rw[w64 (by omega)];omega⟩
   . rw[c0 (by simpa using e0)];exact Rn.ok (Rn.ok (Rk.of i2 hz))
 . rw[c0 (df h0)];exact Rn.ok (Rn.ok ⟨i2.i.w,fun _=>i2⟩)
variable{X:Cx}{u:Q6a}{S:Nat}{B:Int}{r:Z1}{n:Nat}
theorem Ri.down(h:Ri X u S (B-1) r)(hB:B<=10000000):Ri X u S B r:=by
 have:=h.up (by omega)
 rwa[show B-1+1=B by omega]at this
theorem Rx.down{a:Z1}(h:Rx X u S (B-1) r a)(hB:B<=10000000):Rx X u S B r a:=⟨h.i.down hB,h.d,h.f⟩
theorem act_s7(h:S7 X u n):∀S B r k a,Ri X u S B r->Ad (cSq X S) k a->Dr r+20*k+700100<=n+1->Rn ((D7 (n+1)).B9 r a) (Rk X u S B r):=by
 intro S B r k a hr ha hn;obtain⟨j,rfl,hA,hP,hb,hel,hc,al,ao⟩:=ha.parts;have hB:=hr.b;show Rn (P3 (D7 n) r a) _;unfold P3
 dsimp only[jn]
 refine Rn.bd (Y6v hr) fun y hy=>?_;cases hq:y.1 with
 |false=>exact Rn.ok ⟨hy.1,fun e=>absurd rfl e⟩
 |true=>
 obtain⟨h1,h2,h3,h4⟩:=hy.2 hq;rw[c0 (b:=!true) rfl];have rx:Rx X u S (B-1) r y.2:=⟨h1,h2,by omega⟩;have hd:=rx.dr;have up:∀{z:Z1}{w:Int×Z1},Rx X u S (B-1) y.2 z->Rk X u S (B-1) z w->Rk X u S B r (w.1,w.2):=fun hz hw=>⟨hw.1,fun e=>((rx.trans hz).trans (hw.2 e)).down hB⟩;have re:=Rx.refl h1
 by_cases k2:a.Kind=2
 . rw[c1 (by rw[k2];rfl)];obtain⟨t,et,ht⟩:=at0 (ao.i (.inl k2));refine Rn.step et (Rn.bd (h.asked S (B-1) y.2 70000 t h1 (hA t ht) (by omega)) fun z hz=>?_);cases hzq:z.2.1 with
   |false=>exact Rn.ok ⟨hz.1,fun e=>absurd rfl e⟩
   |true=>
    have rz:=hz.2 hzq;have hdz:=rz.dr;rw[c0 (b:=!true) rfl];cases z.1 with
    |true=>exact Rn.bd (h.acts S (B-1) _ j a.Body rz.i hb al.b (by omega)) fun w hw=>Rn.ok (up rz hw)
    |false=>exact Rn.bd (h.acts S (B-1) _ j a.Else rz.i hel al.e (by omega)) fun w hw=>Rn.ok (up rz hw)
 rw[c0 (by simpa using k2)]
 by_cases k3:a.Kind=3
 . rw[c1 (by rw[k3];rfl)];exact Rn.bd (h.loop S (B-1) _ j a h1 ha (by omega)) fun w hw=>Rn.ok (up re hw)
 rw[c0 (by simpa using k3)]
 by_cases k4:a.Kind=4
 . rw[c1 (by rw[k4];rfl)];exact Rn.bd (h.choose S (B-1) _ j a h1 ha k4 (by omega)) fun w hw=>Rn.ok (up re hw)
 rw[c0 (by simpa using k4)]
 by_cases k8:a.Kind=8
 . rw[c1 (by rw[k8];rfl)];exact Rn.bd (h.acts S (B-1) _ j a.Body h1 hb al.b (by omega)) fun w hw=>Rn.ok (up re hw)
 rw[c0 (by simpa using k8)];have on:∀k:Int,Rk X u S B r (k,y.2):=fun k=>⟨h1.w,fun _=>rx.down hB⟩;cases a.Kind==6 with
 |true=>exact Rn.ok (on 1)
 |false=>
 cases a.Kind==7 with
 |true=>exact Rn.ok (on 2)
 |false=>
 rw[c0 (b:=false) rfl,c0 (b:=false) rfl]
 by_cases k9:a.Kind=9
 . rw[c1 (by rw[k9];rfl)];have hv:=ao.n k9;obtain⟨p,ep,_⟩:=J2 (l:=y.2.vars) (n:=a.Var) ⟨hv.1,by rw[h1.v];exact hv.2⟩;refine Rn.step ep (Rn.bd (X6k h1.m _) fun z hz=>Rn.bd (Y2h (h1.mem hz) _) fun w hw=>?_);cases hwq:w.1 with
   |false=>exact Rn.ok ⟨hw.1,fun e=>absurd rfl e⟩
   |true=>
    have e:=hw.2 hwq;rw[c0 (b:=!true) rfl,e];exact Rn.ok ⟨h1.w,fun _=>⟨(h1.mem hz).down hB,h2,by dsimp only;omega⟩⟩
 rw[c0 (by simpa using k9)];have ala:=al.A;refine Rn.lp (fun s=>(0<=s.1/\s.1<=a.A.length)/\Rx X u S (B-1) y.2 {s.2.1 with mem:=s.2.2}) (fun s=>a.A.length-s.1.toNat) ⟨⟨qC 0,by dsimp only;omega⟩,re⟩ (by dsimp only;omega) ?_;rintro⟨x3,x4,x5⟩ ⟨i1,i2⟩
 dsimp only at i1 i2⊢
 have hd2:=i2.dr
 by_cases h0:x3<a.A.length
 . rw[c1 (dt h0)];obtain⟨t,et,ht⟩:=J2 ⟨i1.1,h0⟩;refine Rn.step et (Rn.bd (h.term S (B-1) _ 70000 t i2.i (hA t ht) (by omega)) fun z hz=>?_);cases hzq:z.2.1 with
   |false=>exact Rn.ok (Rn.ok ⟨hz.2.1,fun e=>absurd rfl e⟩)
   |true=>
    have rz:=hz.2.2 hzq;have ri:=rz.i;rw[c0 (b:=!true) rfl];cases a.Kind==5 with
    |true=>exact Rn.ok ⟨⟨by dsimp only;rw[w64 (by omega)];omega,i2.trans ⟨⟨ri.u,ri.m,ri.f,ri.d,ri.v,ri.o,ri.i,ri.b,ri.e,ri.x,hz.1,ri.p⟩,rz.d,rz.f⟩⟩,by dsimp only;rw[w64 (by omega)];omega⟩
    |false=>exact Rn.ok ⟨⟨by dsimp only;rw[w64 (by omega)];omega,i2.trans rz⟩,by dsimp only;rw[w64 (by omega)];omega⟩
 . rw[c0 (df h0)];refine Rn.ok ?_;show Rn (bif a.Kind==5 then _ else _) _;have all:=(rx.trans i2).down hB;cases a.Kind==5<;>exact Rn.ok ⟨i2.i.w,fun _=>all⟩
theorem call_s7(hu:Uo X u)(h:S7 X u n):∀S B r (v m:Nat)(l:List Y1)(p:Bool),Ri X u S B r->X.sig[v]?=some m->l.length<=m->(∀v∈l,U32 v.Num)->Dr r+2<=n+1->Rn ((D7 (n+1)).K5 r (v:Int) l p) (Rt X u S B r):=by
 intro S B r v m l p hr hm hl hv hn;have hd:=hr.d;show Rn (N2 (D7 n) r v l p) _;unfold N2
 by_cases h0:r.deep=5000
 . rw[c1 (by rw[h0];rfl)];exact Rn.bd (X1q hr.w 16) fun y hy=>Rn.ok ⟨Q4t,hy.1,fun e=>by rw[hy.2]at e;cases e⟩
 rw[c0 (by simpa using h0),w64 (by omega)]
 have hvl:v<u.Codes.length:=by
  have:=(List.getElem?_eq_some_iff.1 hm).1;rw[hu.c];exact this
 have hq:=hu.cd v m u.Codes[v] (kM hvl) hm;refine Rn.step (show idx r.u.Codes (v:Int)=some u.Codes[v] by rw[hr.u];exact C1 hvl) ?_
 generalize u.Codes[v]=c at hq
 obtain⟨hq1,hq2,hq3,hq4⟩:=hq;refine Rn.step (x:=(⟨0,⟨0,0,0,0⟩,p⟩:Y1)) rfl ?_;have hr1:Ri X u S B {r with deep:=r.deep+1,ret:=⟨0,⟨0,0,0,0⟩,p⟩}:=⟨hr.u,hr.m,hr.f,by dsimp only;omega,hr.v,hr.o,hr.i,hr.b,hr.e,hr.x,Q4t,hr.p⟩;refine Rn.bd (X5w hr1 hq3 (by omega) hv) fun y hy=>?_;cases hyq:y.1 with
 |false=>exact Rn.ok ⟨Q4t,hy.1,fun e=>by cases e⟩
 |true=>
 have ry:=hy.2 hyq;have ryd:=ry.d
 dsimp only at ryd
 have hdr:Dr y.2+2000000=Dr r:=by unfold Dr;rw[ryd];omega
 rw[c0 (b:=!true) rfl];refine Rn.bd (h.acts _ B y.2 10000 c.Body ry.i hq1 hq2 (by omega)) fun z hz=>?_
 by_cases h4:z.1=4
 . rw[c1 (by rw[h4];rfl)];exact Rn.ok ⟨Q4t,hz.1,fun e=>by cases e⟩
 rw[c0 (by simpa using h4)];have rz:=hz.2 h4;have rzd:=rz.d;have hzi:=rz.i;have hzv:=hzi.v;refine Rn.lp (fun s=>(0<=s.2/\s.2<=z.2.vars.length)/\Mo ⟨s.1⟩) (fun s=>z.2.vars.length-s.2.toNat) ⟨⟨qC 0,by dsimp only;omega⟩,hzi.m⟩ (by dsimp only;omega) ?_;rintro⟨x1,x2⟩ ⟨i1,i2⟩
 dsimp only at i1 i2⊢
 by_cases h1:x2<z.2.vars.length
 . rw[c1 (dt h1)];obtain⟨a,ea,_⟩:=J2 ⟨i1.1,h1⟩;exact Rn.step ea (Rn.bd (Drop_any i2 _) fun w hw=>Rn.ok ⟨⟨by dsimp only;rw[w64 (by omega)];omega,hw⟩,by dsimp only;rw[w64 (by omega)];omega⟩)
 . rw[c0 (df h1)];have hf1:=ry.f;have hf2:=rz.f
   dsimp only at hf1
   exact Rn.ok (Rn.ok ⟨hzi.t,hzi.w,fun _=>⟨⟨hzi.u,i2,hzi.f,by dsimp only;rw[rzd,ryd,w64 (by omega)];omega,hr.v,hzi.o,hzi.i,hzi.b,hzi.e,hzi.x,hr.t,hzi.p⟩,by dsimp only;rw[rzd,ryd,w64 (by omega)];omega,by dsimp only;omega⟩⟩)
theorem rdS7(hu:Uo X u):∀n,S7 X u n
 |0=>⟨fun _ _ _ _ _ _ _ _ h=>by omega,fun _ _ _ _ _ _ _ h=>by omega,fun _ _ _ _ _ _ _ h=>by omega,fun _ _ _ _ _ _ _ h=>by omega,fun _ _ _ _ _ _ _ _ h=>by omega,fun _ _ _ _ _ _ _ h=>by omega,fun _ _ _ _ _ _ _ _ h=>by omega,fun _ _ _ _ _ _ _ _ _ _ _ h=>by omega⟩
 |n+1=>⟨terms_s7 (rdS7 hu n),term_s7 hu (rdS7 hu n),asked_s7 (rdS7 hu n),loop_s7 (rdS7 hu n),X5y (rdS7 hu n),act_s7 (rdS7 hu n),acts_s7 (rdS7 hu n),call_s7 hu (rdS7 hu n)⟩
def r0(u:Q6a)(i:List Int)(f:Int):Z1:=⟨u,⟨[]⟩,i,⟨[],0,0,0⟩,min (max f 0) 10000000,0,[],⟨0,⟨0,0,0,0⟩,false⟩⟩
theorem r0_ri{i:List Int}(hi:∀x∈i,U32 x)(f:Int):Ri X u 0 10000000 (r0 u i f):=⟨rfl,⟨kX _,P5⟩,by show 0<=min (max f 0) 10000000;omega,⟨qC 0,by show(0:Int)<=5000;decide⟩,rfl,by show((0:Nat):Int)+min (max f 0) 10000000<=_;omega,⟨qC 0,by show(0:Int)+min (max f 0) 10000000<=_;omega⟩,qC _,rfl,rfl,Q4t,hi⟩
theorem X5m(hu:Uo X u){B:Int}{r:Z1}(hr:Ri X u 0 B r):Rn (K5 r u.Main [] false) (Rt X u 0 B r):=by
 obtain⟨v,hv⟩:=jR hu.m.1;have hvl:v<X.sig.length:=by have:=hu.m.2;have:=hu.c;omega
 rw[hv];exact(rdS7 hu NN).call 0 B r v X.sig[v] [] false hr (kM hvl) (kX _) P5 (by unfold Dr NN;have:=hr.d;omega)
theorem u255(a:Int):0<=bits .and .u32 a 255/\bits .and .u32 a 255<=255:=by
 have hle:((BitVec.ofInt 32 a)&&&(BitVec.ofInt 32 255)).toNat<=255:=by
  rw[BitVec.toNat_and];exact Nat.and_le_right
 show 0<=IntKind.u32.wrap ((BitVec.ofInt 32 a&&&BitVec.ofInt 32 255).toNat:Int)/\IntKind.u32.wrap ((BitVec.ofInt 32 a&&&BitVec.ofInt 32 255).toNat:Int)<=255
 generalize(BitVec.ofInt 32 a&&&BitVec.ofInt 32 255).toNat=v at hle⊢
 have:IntKind.u32.wrap (v:Int)=(v:Int):=by
  simp only[qJ,IntKind.signed,IntKind.bits]
  simp
  omega
 omega
theorem Y6p(hu:Uo X u){i:List Int}(hi:∀x∈i,U32 x)(f:Int):Rn (C8 u i f) (fun o=>o.Exit<=255/\(o.E=0\/o.Exit=0)/\0<=o.Ins):=by
 unfold C8
 dsimp only[jn]
 refine Rn.step (x:=(⟨[]⟩:Y5)) rfl ?_;refine Rn.bd (X6g hu (r0_ri hi f)) fun y hy=>?_;cases hb:y.1 with
 |false=>exact Rn.ok ⟨by show y.2.out.Exit<=255;rw[hy.1.1];decide,.inr hy.1.1,hy.1.2⟩
 |true=>
  rw[c0 (b:=!true) rfl];have h1:Ri X u 0 10000000 {y.2 with vars:=[]}:=(hy.2 hb).i.vars [];refine Rn.bd (X5m hu h1) fun z hz=>?_;cases hc:z.2.1 with
  |false=>exact Rn.ok ⟨by rw[hz.2.1.1];decide,.inr hz.2.1.1,hz.2.1.2⟩
  |true=>exact Rn.ok ⟨(u255 _).2,.inl (hz.2.2 hc).i.e,hz.2.1.2⟩
theorem X2y(s:List UInt8):∃u b,Z0w s=some (u,b)/\(b=true->∃X,Uo X u):=by
 unfold Z0w
 by_cases hs:(4000:Int)<s.length
 . exact⟨_,_,c1 (dt hs),fun e=>by cases e⟩
 rw[c0 (df hs)];obtain⟨p,q,e,ep,hp⟩:=Read_any s (by omega);rw[ep,qV]
 by_cases he:e=0
 . rw[c0 (by simpa using he)];obtain⟨u,q2,e2,eu,h2⟩:=X6l (hp he).1 (hp he).2;rw[eu]
   exact⟨_,_,rfl,fun h=>by
    rcases h2 with h2|h2
    . exact h2.2.2
    . exact absurd (by simpa using h) h2.1⟩
 . exact⟨_,_,c1 (by simpa using he),fun e=>by cases e⟩
set_option maxRecDepth 100000 in
theorem X2w:Q8t=some true:=by kernel_rfl
end
section
def Pw{Z:Type}(y:Option Z)(Q:Z->Prop):Prop:=∀z,y=some z->Q z
structure M(I:List Int)(c:P2)(B:Int)(r:Z1):Prop where
 j:r.inputs=I
 f:0<=r.fuel
 i:0<=r.out.Ins
 b:r.out.Ins+r.fuel<=B
 l:(r.out.Out.length:Int)+r.fuel<=B
 o:c.Out<+:r.out.Out
 n:c.Ins<=r.out.Ins
variable{I:List Int}{c:P2}{B:Int}{r:Z1}{n:Nat}
theorem M.up(h:M I c (B-1) r):M I c B r:=⟨h.j,h.f,h.i,by have:=h.b;omega,by have:=h.l;omega,h.o,h.n⟩
theorem M.same(h:M I c B r){a:Z1}(e1:a.fuel=r.fuel:=by rfl)(e2:a.out.Out=r.out.Out:=by rfl)(e3:a.out.Ins=r.out.Ins:=by rfl)(e4:a.inputs=r.inputs:=by rfl):M I c B a:=⟨by rw[e4];exact h.j,by rw[e1];exact h.f,by rw[e3];exact h.i,by rw[e1,e3];exact h.b,by rw[e1,e2];exact h.l,by rw[e2];exact h.o,by rw[e3];exact h.n⟩
section
variable{Z A S R:Type}{Q:Z->Prop}
theorem Pw.ok{z:Z}(h:Q z):Pw (some z) Q:=fun x e=>by cases e;exact h
theorem Pw.bd{m:Option A}{P:A->Prop}{f:A->Option Z}(h:Pw m P)(k:∀x,P x->Pw (f x) Q):Pw (m.bind f) Q:=fun z e=>by
 cases hm:m with
 |none=>rw[hm]at e;cases e
 |some x=>rw[hm]at e;exact k x (h x hm) z e
theorem Pw.sk{m:Option A}{f:A->Option Z}(k:∀x,Pw (f x) Q):Pw (m.bind f) Q:=Pw.bd (P:=fun _=>True) (fun _ _=>trivial) fun x _=>k x
theorem Pw.cd{b:Bool}{x y:Option Z}(h:Pw x Q)(k:Pw y Q):Pw (bif b then x else y) Q:=by cases b<;>assumption
theorem Pw.mono{y:Option Z}{P:Z->Prop}(h:Pw y P)(k:∀z,P z->Q z):Pw y Q:=fun z e=>k z (h z e)
def Lm(I:S->Prop)(f:Lp S R->Option Z)(Q:Z->Prop):Lp S R->Prop
 | .go s=>I s
 | .brk s=>Pw (f (.brk s)) Q
 | .ret r=>Pw (f (.ret r)) Q
theorem Pw.lp{body:S->Option (Lp S R)}{f:Lp S R->Option Z}{N:Nat}{s:S}(I:S->Prop)(hI:I s)(hs:∀s,I s->Pw (body s) (Lm I f Q)):Pw ((X5 body N s).bind f) Q:=by
 induction N generalizing s with
 |zero=>exact fun z e=>by cases e
 |succ N ih=>
  intro z e;unfold X5 at e;cases hb:body s with
  |none=>rw[hb]at e;cases e
  |some w=>
   rw[hb]at e;have h:=hs s hI w hb;cases w with
   |go s'=>exact ih h z e
   |brk s'=>exact h z e
   |ret q=>exact h z e
end
theorem X3m(h:M I c B r)(e:Int):Pw (J4 r e) (fun z=>M I c B z.2):=by
 unfold J4
 dsimp only[jn]
 exact Pw.cd (Pw.ok h.same) (Pw.ok h)
theorem Y1w(h:M I c B r)(e:Int):Pw (U6 r e) (fun z=>M I c B z.2):=by
 unfold U6
 dsimp only[jn]
 exact Pw.cd (Pw.cd (Pw.bd (X3m h _) fun x hx=>Pw.ok hx) (Pw.ok h)) (Pw.cd (Pw.bd (X3m h _) fun x hx=>Pw.ok hx) (Pw.ok h))
theorem Z8h(h:M I c B r)(hB:B<=1000000000):Pw (V6 r) (fun z=>M I c B z.2/\(z.1=true->M I c (B-1) z.2)):=by
 have hf:=h.f;have hi:=h.i;have hb:=h.b;have hl:=h.l;unfold V6;cases r.out.E !=0 with
 |true=>exact Pw.ok ⟨h,fun e=>by cases e⟩
 |false=>
  rw[c0 (b:=false) rfl]
  by_cases h0:r.fuel=0
  . rw[c1 (by rw[h0];rfl)];unfold J4
    dsimp only[jn]
    cases r.out.E==0<;>exact Pw.ok ⟨h.same,fun e=>by cases e⟩
  . rw[c0 (by simpa using h0),w64 (by omega)];have:M I c (B-1) {r with fuel:=r.fuel-1}:=⟨h.j,by dsimp only;omega,hi,by dsimp only;omega,by dsimp only;omega,h.o,h.n⟩;exact Pw.ok ⟨this.up,fun _=>this⟩
theorem X4s(h:M I c B r)(q:Q4n)(l:List Y1):Pw (M9 r q l) (fun z=>M I c B z.2):=by
 unfold M9
 dsimp only[jn]
 refine Pw.lp (fun s=>M I c B s.2.1) h.same (fun s hs=>?_);refine Pw.cd (Pw.sk fun _=>Pw.sk fun y=>Pw.bd (Y1w (r:={s.2.1 with mem:=y.2.2}) hs.same _) fun x hx=>Pw.cd (Pw.ok (Pw.ok hx.same)) (Pw.sk fun _=>Pw.ok hx.same)) (Pw.ok ?_);refine Pw.lp (fun s=>M I c B s.2.2) hs.same (fun s hs=>?_);exact Pw.cd (Pw.sk fun _=>Pw.sk fun _=>Pw.sk fun _=>Pw.sk fun _=>Pw.sk fun _=>Pw.sk fun y=>Pw.bd (Y1w (r:={s.2.2 with mem:=y.2}) hs.same _) fun x hx=>Pw.cd (Pw.ok (Pw.ok hx.same)) (Pw.ok hx.same)) (Pw.ok (Pw.ok hs.same))
def Eo{A B:Type}(g:B->A)(y:Option A)(y':Option B):Prop:=y=y'.map g
section
variable{A B C D S S' R R':Type}{g:B->A}
theorem Eo.ok{x:A}{x':B}(h:x=g x':=by rfl):Eo g (some x) (some x'):=by rw[h];rfl
theorem Eo.st{m:Option C}{f:C->Option A}{f':C->Option B}(k:∀x,Eo g (f x) (f' x)):Eo g (m.bind f) (m.bind f'):=by
 cases m with
 |none=>rfl
 |some x=>exact k x
theorem Eo.bd{h:D->C}{m:Option C}{m':Option D}{f:C->Option A}{f':D->Option B}(e:Eo h m m')(k:∀x,Eo g (f (h x)) (f' x)):Eo g (m.bind f) (m'.bind f'):=by
 unfold Eo at e;rw[e];cases m' with
 |none=>rfl
 |some x=>exact k x
theorem Eo.cd{b:Bool}{x y:Option A}{x' y':Option B}(h:Eo g x x')(k:Eo g y y'):Eo g (bif b then x else y) (bif b then x' else y'):=by cases b<;>assumption
def lmap(σ:S'->S)(ρ:R'->R):Lp S' R'->Lp S R
 | .go s=> .go (σ s)
 | .brk s=> .brk (σ s)
 | .ret r=> .ret (ρ r)
theorem Eo.lp{σ:S'->S}{ρ:R'->R}{b:S->Option (Lp S R)}{b':S'->Option (Lp S' R')}{f:Lp S R->Option A}{f':Lp S' R'->Option B}{N:Nat}{s:S}{s':S'}(h0:s=σ s')(hb:∀s,Eo (lmap σ ρ) (b (σ s)) (b' s))(hf:∀o,Eo g (f (lmap σ ρ o)) (f' o)):Eo g ((X5 b N s).bind f) ((X5 b' N s').bind f'):=by
 subst h0
 have:Eo (lmap σ ρ) (X5 b N (σ s')) (X5 b' N s'):=by
  induction N generalizing s' with
  |zero=>rfl
  |succ N ih=>
   have h:=hb s';unfold Eo at h⊢;unfold X5;rw[h];cases b' s' with
   |none=>rfl
   |some o=>
    cases o with
    |go q=>exact ih
    |brk q=>rfl
    |ret q=>rfl
 exact Eo.bd this hf
end
def kn(r:Z1):Z1:=⟨r.u,r.mem,[],⟨[],0,0,0⟩,0,0,r.vars,⟨0,⟨0,0,0,0⟩,false⟩⟩
theorem X6a(r:Z1)(t:Y6)(l:List Y1):Eo (fun z:Y1×Int×Z1=>(z.1,z.2.1,({r with mem:=z.2.2.mem}:Z1))) (A4 r t l) (A4 (kn r) t l):=by
 unfold A4 A7
 dsimp only[jn,kn]
 repeat'(first|exact Eo.ok|with_reducible refine Eo.cd ?_ ?_|refine Eo.st fun x=>?_)
theorem X3j(r:Z1)(t:Y6)(l:List Y1)(h11:t.Kind≠11)(h12:t.Kind≠12):Eo (fun z:Y1×Int×Z1=>(z.1,z.2.1,({r with mem:=z.2.2.mem}:Z1))) (V4 r t l) (V4 (kn r) t l):=by
 unfold V4 A7 Q3y
 dsimp only[jn]
 have e11:(t.Kind==11)=false:=by simpa using h11
 have e12:(t.Kind==12)=false:=by simpa using h12
 rw[e11,e12]
 simp only[cond_false]
 repeat'(first|exact Eo.ok|exact Eo.bd (X6a r t l) fun x=>Eo.ok|with_reducible refine Eo.cd ?_ ?_|refine Eo.st fun x=>?_)
def fi(J:List Int)(d:Int)(r:Z1):Z1:={r with inputs:=J,fuel:=r.fuel+d}
def fi2{α:Type}(J:List Int)(d:Int)(z:α×Z1):α×Z1:=(z.1,fi J d z.2)
def fi3{α β:Type}(J:List Int)(d:Int)(z:α×β×Z1):α×β×Z1:=(z.1,z.2.1,fi J d z.2.2)
variable{J:List Int}{d:Int}
theorem Y9v(r:Z1)(k:Int):Eo (fi2 J d) (J4 (fi J d r) k) (J4 r k):=by
 unfold J4
 dsimp only[jn]
 exact Eo.cd Eo.ok Eo.ok
theorem Y5l(r:Z1)(k:Int):Eo (fi2 J d) (U6 (fi J d r) k) (U6 r k):=by
 unfold U6
 dsimp only[jn]
 exact Eo.cd (Eo.cd (Eo.bd (Y9v r _) fun x=>Eo.ok) Eo.ok) (Eo.cd (Eo.bd (Y9v r _) fun x=>Eo.ok) Eo.ok)
theorem enter_e(r:Z1)(c:Q4n)(l:List Y1):Eo (fi2 J d) (M9 (fi J d r) c l) (M9 r c l):=by
 unfold M9
 dsimp only[jn]
 refine Eo.lp (σ:=fun s=>(s.1,fi J d s.2.1,s.2.2)) (ρ:=fi2 J d) rfl (fun s=>?_) (fun o=>?_)
 . refine Eo.cd (Eo.st fun a=>Eo.st fun b=>Eo.bd (Y5l {s.2.1 with mem:=b.2.2} _) fun x=>Eo.cd Eo.ok (Eo.st fun _=>Eo.ok)) Eo.ok
 . cases o with
   |go s=>rfl
   |ret q=>exact Eo.ok
   |brk s=>
    refine Eo.lp (σ:=fun s=>(s.1,s.2.1,fi J d s.2.2)) (ρ:=fi2 J d) rfl (fun s=>?_) (fun o=>?_)
    . exact Eo.cd (Eo.st fun a=>Eo.st fun b=>Eo.st fun _=>Eo.st fun _=>Eo.st fun _=>Eo.st fun y=>Eo.bd (Y5l {s.2.2 with mem:=y.2} _) fun x=>Eo.cd Eo.ok Eo.ok) Eo.ok
    . cases o<;>first|rfl|exact Eo.ok
theorem begin_e(r:Z1):Eo (fi2 J d) (F2 (fi J d r)) (F2 r):=by
 unfold F2
 dsimp only[jn]
 refine Eo.lp (σ:=fun s=>(s.1,fi J d s.2.1,s.2.2)) (ρ:=fi2 J d) rfl (fun s=>?_) (fun o=>?_)
 . exact Eo.cd (Eo.st fun a=>Eo.st fun b=>Eo.bd (Y5l {s.2.1 with mem:=b.2.2} _) fun x=>Eo.cd Eo.ok (Eo.st fun _=>Eo.st fun y=>Eo.bd (Y5l {x.2 with mem:=y.2} _) fun z=>Eo.cd Eo.ok Eo.ok)) Eo.ok
 . cases o<;>first|rfl|exact Eo.ok
theorem told_f(r:Z1)(t:Y6)(l:List Y1)(h12:t.Kind≠12):Eo (fi3 J d) (V4 (fi J d r) t l) (V4 r t l):=by
 by_cases h11:t.Kind=11
 . unfold V4;rw[h11];exact Eo.st fun x=>Eo.st fun _=>Eo.ok
 . have h1:=X3j (fi J d r) t l h11 h12;have h2:=X3j r t l h11 h12;unfold Eo at h1 h2⊢;rw[h1,h2,Option.map_map]
   rfl
theorem X3h(h:M I c (B-1) r)(hB:B<=1000000000)(t:Y6)(l:List Y1):Pw (V4 r t l) (fun z=>M I c B z.2.2):=by
 have hf:=h.f;have hi:=h.i;have hb:=h.b;have hn:=h.n;have hl:=h.l
 by_cases h11:t.Kind=11
 . unfold V4;rw[h11];exact Pw.sk fun x=>Pw.sk fun _=>Pw.ok ⟨h.j,hf,hi,by dsimp only;omega,by dsimp only;simp only[qW,qG];omega,h.o.trans (List.prefix_append _ _),h.n⟩
 by_cases h12:t.Kind=12
 . unfold V4;rw[h12];have:M I c B {r with out:={r.out with Ins:=qJ .i64 (r.out.Ins+1)}}:=⟨h.j,hf,by dsimp only;rw[w64 (by omega)];omega,by dsimp only;rw[w64 (by omega)];omega,by dsimp only;omega,h.o,by dsimp only;rw[w64 (by omega)];omega⟩
   dsimp only[jn]
   rw[c0 (b:=(12:Int)==2) rfl,c0 (b:=(12:Int)==3) rfl,c0 (b:=(12:Int)==4) rfl,c0 (b:=(12:Int)==5) rfl,c0 (b:=(12:Int)==6) rfl,c0 (b:=(12:Int)==11) rfl,c1 (b:=(12:Int)==12) rfl];exact Pw.cd (Pw.sk fun _=>Pw.sk fun _=>Pw.ok this) (Pw.sk fun _=>Pw.ok this)
 have h1:=X3j r t l h11 h12;unfold Eo at h1;intro z e;rw[h1]at e;cases hk:V4 (kn r) t l with
 |none=>rw[hk]at e;cases e
 |some x=>rw[hk]at e;cases e;exact h.up.same
structure P7(n:Nat):Prop where
 terms:∀I c B r l,B<=1000000000->M I c B r->Pw ((D7 n).F1 r l) (fun z=>M I c B z.2.2)
 term:∀I c B r t,B<=1000000000->M I c B r->Pw ((D7 n).X2 r t) (fun z=>M I c B z.2.2)
 asked:∀I c B r t,B<=1000000000->M I c B r->Pw ((D7 n).V2 r t) (fun z=>M I c B z.2.2)
 loop:∀I c B r a,B<=1000000000->M I c B r->Pw ((D7 n).E1 r a) (fun z=>M I c B z.2)
 choose:∀I c B r a,B<=1000000000->M I c B r->Pw ((D7 n).G6 r a) (fun z=>M I c B z.2)
 act:∀I c B r a,B<=1000000000->M I c B r->Pw ((D7 n).B9 r a) (fun z=>M I c B z.2)
 acts:∀I c B r l,B<=1000000000->M I c B r->Pw ((D7 n).V5 r l) (fun z=>M I c B z.2)
 call:∀I c B r v l p,B<=1000000000->M I c B r->Pw ((D7 n).K5 r v l p) (fun z=>M I c B z.2.2)
theorem terms_m(h:P7 n):∀I c B r l,B<=1000000000->M I c B r->Pw (P0 (D7 n) r l) (fun z=>M I c B z.2.2):=by
 intro I c B r l hB hr;unfold P0;exact Pw.lp (fun s=>M I c B s.2.2.1) hr fun s hs=>Pw.cd (Pw.sk fun _=>Pw.bd (h.term I c B _ _ hB hs.same) fun y hy=>Pw.cd (Pw.ok (Pw.ok hy)) (Pw.sk fun _=>Pw.ok hy)) (Pw.ok (Pw.ok hs.same))
theorem asked_m(h:P7 n):∀I c B r t,B<=1000000000->M I c B r->Pw (P1 (D7 n) r t) (fun z=>M I c B z.2.2):=by
 intro I c B r t hB hr;unfold P1;exact Pw.bd (h.term I c B r t hB hr) fun y hy=>Pw.sk fun _=>Pw.ok hy
theorem acts_m(h:P7 n):∀I c B r l,B<=1000000000->M I c B r->Pw (N3 (D7 n) r l) (fun z=>M I c B z.2):=by
 intro I c B r l hB hr;unfold N3;exact Pw.lp (fun s=>M I c B s.2.1) hr fun s hs=>Pw.cd (Pw.sk fun _=>Pw.bd (h.act I c B _ _ hB hs.same) fun y hy=>Pw.cd (Pw.ok (Pw.ok hy)) (Pw.ok hy)) (Pw.ok (Pw.ok hs.same))
theorem term_m(h:P7 n):∀I c B r t,B<=1000000000->M I c B r->Pw (B0 (D7 n) r t) (fun z=>M I c B z.2.2):=by
 intro I c B r t hB hr;have hB1:B-1<=1000000000:=by omega
 unfold B0
 dsimp only[jn]
 refine Pw.bd (Z8h hr hB) fun y hy=>?_;cases hq:y.1 with
 |false=>exact Pw.ok hy.1
 |true=>
 have h1:=hy.2 hq;rw[c0 (b:=!true) rfl]
 have two:∀b7:Bool,Pw ((idx t.Kids 0).bind fun u1=>((D7 n).V2 y.2 u1).bind fun y4=>bif (y4.2.1&&(y4.1==b7))then((idx t.Kids 1).bind fun u2=>((D7 n).V2 y4.2.2 u2).bind fun y5=>(W4 y5.1).bind fun y6=>some (y6,y5.2.1,{y5.2.2 with mem:=y5.2.2.mem}))else((W4 y4.1).bind fun y6=>some (y6,y4.2.1,{y4.2.2 with mem:=y4.2.2.mem}))) (fun z=>M I c B z.2.2):=fun b7=>
  Pw.sk fun _=>Pw.bd (h.asked I c (B-1) _ _ hB1 h1) fun z hz=>Pw.cd (Pw.sk fun _=>Pw.bd (h.asked I c (B-1) _ _ hB1 hz) fun w hw=>Pw.sk fun _=>Pw.ok hw.up) (Pw.sk fun _=>Pw.ok hz.up)
 have rest:Pw (bif t.Kind==9 then((idx t.Kids 0).bind fun u3=>((D7 n).V2 y.2 u3).bind fun y7=>bif !y7.2.1 then(some ((⟨0,(⟨0,0,0,0⟩:X9),false⟩:Y1),false,y7.2.2))else(bif y7.1 then((idx t.Kids 1).bind fun u4=>((D7 n).X2 y7.2.2 u4).bind fun y8=>some (y8.1,y8.2.1,y8.2.2))else((idx t.Kids 2).bind fun u5=>((D7 n).X2 y7.2.2 u5).bind fun y9=>some (y9.1,y9.2.1,y9.2.2))))else(((D7 n).F1 y.2 t.Kids).bind fun y10=>bif !y10.2.1 then(some ((⟨0,(⟨0,0,0,0⟩:X9),false⟩:Y1),false,y10.2.2))else(bif t.Kind==10 then(((D7 n).K5 y10.2.2 t.Var y10.1 t.Ptr).bind fun y11=>some (y11.1,y11.2.1,y11.2.2))else((V4 y10.2.2 t y10.1).bind fun y12=>(U6 y12.2.2 y12.2.1).bind fun y13=>some (y12.1,y13.1,y13.2))))) (fun z=>M I c B z.2.2):=
  Pw.cd (Pw.sk fun _=>Pw.bd (h.asked I c (B-1) _ _ hB1 h1) fun z hz=>Pw.cd (Pw.ok hz.up) (Pw.cd (Pw.sk fun _=>Pw.bd (h.term I c (B-1) _ _ hB1 hz) fun w hw=>Pw.ok hw.up) (Pw.sk fun _=>Pw.bd (h.term I c (B-1) _ _ hB1 hz) fun w hw=>Pw.ok hw.up)))
   (Pw.bd (h.terms I c (B-1) _ _ hB1 h1) fun z hz=>Pw.cd (Pw.ok hz.up) (Pw.cd (Pw.bd (h.call I c (B-1) _ _ _ _ hB1 hz) fun w hw=>Pw.ok hw.up) (Pw.bd (X3h hz hB _ _) fun w hw=>Pw.bd (Y1w hw _) fun q hq=>Pw.ok hq)))
 exact Pw.cd (Pw.cd (Pw.sk fun _=>Pw.ok h1.up) (Pw.sk fun _=>Pw.ok h1.up)) (Pw.cd (Pw.cd (two _) rest) (Pw.cd (two _) rest))
theorem choose_m(h:P7 n):∀I c B r a,B<=1000000000->M I c B r->Pw (D8 (D7 n) r a) (fun z=>M I c B z.2):=by
 intro I c B r a hB hr;unfold D8
 dsimp only[jn]
 refine Pw.sk fun _=>Pw.bd (h.term I c B _ _ hB hr) fun y hy=>Pw.cd (Pw.ok hy) (Pw.sk fun o=>?_);cases o with
 |go _=>exact fun z e=>by cases e
 |ret _=>exact fun z e=>by cases e
 |brk _=>
  refine Pw.sk fun o=>?_;cases o with
  |go _=>exact fun z e=>by cases e
  |ret _=>exact fun z e=>by cases e
  |brk _=>exact Pw.sk fun _=>Pw.lp (fun s=>M I c B s.2.1) hy fun s hs=>Pw.cd (Pw.sk fun _=>Pw.bd (h.acts I c B _ _ hB hs.same) fun w hw=>Pw.cd (Pw.ok (Pw.ok hw)) (Pw.cd (Pw.ok hw) (Pw.ok (Pw.ok hw)))) (Pw.ok (Pw.ok hs.same))
theorem call_m(h:P7 n):∀I c B r v l p,B<=1000000000->M I c B r->Pw (N2 (D7 n) r v l p) (fun z=>M I c B z.2.2):=by
 intro I c B r v l p hB hr;unfold N2;refine Pw.cd (Pw.bd (X3m hr _) fun y hy=>Pw.ok hy) (Pw.sk fun _=>Pw.sk fun y=>Pw.bd (X4s (r:={r with deep:=qJ .i64 (r.deep+1),ret:=y}) hr.same _ _) fun w hw=>Pw.cd (Pw.ok hw) (Pw.bd (h.acts I c B _ _ hB hw) fun z hz=>Pw.cd (Pw.ok hz) (Pw.sk fun o=>?_)));cases o with
 |go _=>exact fun z e=>by cases e
 |ret _=>exact fun z e=>by cases e
 |brk _=>exact Pw.ok hz.same
theorem act_m(h:P7 n):∀I c B r a,B<=1000000000->M I c B r->Pw (P3 (D7 n) r a) (fun z=>M I c B z.2):=by
 intro I c B r a hB hr;unfold P3
 dsimp only[jn]
 refine Pw.bd (Z8h hr hB) fun y hy=>Pw.cd (Pw.ok hy.1) ?_;have h1:=hy.1;refine Pw.cd (Pw.sk fun _=>Pw.bd (h.asked I c B _ _ hB h1) fun z hz=>Pw.cd (Pw.ok hz) (Pw.cd (Pw.bd (h.acts I c B _ _ hB hz) fun w hw=>Pw.ok hw) (Pw.bd (h.acts I c B _ _ hB hz) fun w hw=>Pw.ok hw))) ?_;refine Pw.cd (Pw.bd (h.loop I c B _ _ hB h1) fun w hw=>Pw.ok hw) (Pw.cd (Pw.bd (h.choose I c B _ _ hB h1) fun w hw=>Pw.ok hw) (Pw.cd (Pw.bd (h.acts I c B _ _ hB h1) fun w hw=>Pw.ok hw) (Pw.cd (Pw.ok h1) (Pw.cd (Pw.ok h1) (Pw.cd (Pw.sk fun _=>Pw.sk fun q=>Pw.bd (Y1w (r:={y.2 with mem:=q.2}) h1.same _) fun w hw=>Pw.cd (Pw.ok hw) (Pw.ok hw)) ?_)))));exact Pw.lp (fun s=>M I c B s.2.1) h1 fun s hs=>Pw.cd (Pw.sk fun _=>Pw.bd (h.term I c B _ _ hB hs.same) fun z hz=>Pw.cd (Pw.ok (Pw.ok hz)) (Pw.cd (Pw.ok hz.same) (Pw.ok hz))) (Pw.ok (Pw.cd (Pw.ok hs.same) (Pw.ok hs.same)))
theorem loop_m(h:P7 n):∀I c B r a,B<=1000000000->M I c B r->Pw (N1 (D7 n) r a) (fun z=>M I c B z.2):=by
 intro I c B r a hB hr;unfold N1
 dsimp only[jn]
 refine Pw.lp (fun s=>M I c B s.2.1) hr fun s hs=>?_;refine Pw.lp (fun s=>M I c B s.2.1) hs.same fun s2 hs2=>?_
 have post:∀q:Int×Z1,M I c B q.2->Pw ((X5 (fun(x14,x15,x16)=>(bif decide (x14<(qQ a.Post:Int))then((idx a.Post x14).bind fun u2=>((D7 n).X2 ({x15 with mem:=x16}) u2).bind fun y2=>bif !y2.2.1 then(some (Lp.ret ((4:Int),y2.2.2)))else(some (Lp.go (qJ .i64 (x14+1),y2.2.2,y2.2.2.mem))))else(some (Lp.brk (x14,{x15 with mem:=x16},x16))):Option (Lp (Int×Z1×Y5) (Int×Z1)))) NN ((0:Int),q.2,q.2.mem)).bind fun o=>o.thn (fun(x14,x15,x16)=>(V6 ({x15 with mem:=x16})).bind fun y3=>bif !y3.1 then(some (Lp.ret ((4:Int),y3.2)))else(some (Lp.go (true,y3.2,y3.2.mem)))) (fun r=>some (Lp.ret r))) (Lm (fun s:Bool×Z1×Y5=>M I c B s.2.1) (fun o=>o.thn (fun(x3,x4,x5)=>some ((0:Int),{x4 with mem:=x5})) (fun r=>some r)) (fun z=>M I c B z.2)):=fun q hq=>
  Pw.lp (fun s=>M I c B s.2.1) hq fun s hs=>Pw.cd (Pw.sk fun _=>Pw.bd (h.term I c B _ _ hB hs.same) fun z hz=>Pw.cd (Pw.ok (Pw.ok (Pw.ok hz))) (Pw.ok hz)) (Pw.ok (Pw.bd (Z8h (r:={s.2.1 with mem:=s.2.2}) hs.same hB) fun w hw=>Pw.cd (Pw.ok (Pw.ok hw.1)) (Pw.ok hw.1)))
 have body:∀q:Z1,M I c B q->Pw (((D7 n).V5 q a.Body).bind fun y1=>bif y1.1==1 then(some (Lp.brk (true,y1.2,y1.2.mem)))else(bif y1.1==3 then(bif y1.1==3 then(some (Lp.ret (y1.1,y1.2)))else((X5 (fun(x14,x15,x16)=>(bif decide (x14<(qQ a.Post:Int))then((idx a.Post x14).bind fun u2=>((D7 n).X2 ({x15 with mem:=x16}) u2).bind fun y2=>bif !y2.2.1 then(some (Lp.ret ((4:Int),y2.2.2)))else(some (Lp.go (qJ .i64 (x14+1),y2.2.2,y2.2.2.mem))))else(some (Lp.brk (x14,{x15 with mem:=x16},x16))):Option (Lp (Int×Z1×Y5) (Int×Z1)))) NN ((0:Int),y1.2,y1.2.mem)).bind fun o=>o.thn (fun(x14,x15,x16)=>(V6 ({x15 with mem:=x16})).bind fun y3=>bif !y3.1 then(some (Lp.ret ((4:Int),y3.2)))else(some (Lp.go (true,y3.2,y3.2.mem)))) (fun r=>some (Lp.ret r))))else(bif y1.1==4 then(some (Lp.ret (y1.1,y1.2)))else((X5 (fun(x14,x15,x16)=>(bif decide (x14<(qQ a.Post:Int))then((idx a.Post x14).bind fun u2=>((D7 n).X2 ({x15 with mem:=x16}) u2).bind fun y2=>bif !y2.2.1 then(some (Lp.ret ((4:Int),y2.2.2)))else(some (Lp.go (qJ .i64 (x14+1),y2.2.2,y2.2.2.mem))))else(some (Lp.brk (x14,{x15 with mem:=x16},x16))):Option (Lp (Int×Z1×Y5) (Int×Z1)))) NN ((0:Int),y1.2,y1.2.mem)).bind fun o=>o.thn (fun(x14,x15,x16)=>(V6 ({x15 with mem:=x16})).bind fun y3=>bif !y3.1 then(some (Lp.ret ((4:Int),y3.2)))else(some (Lp.go (true,y3.2,y3.2.mem)))) (fun r=>some (Lp.ret r)))))) (Lm (fun s:Bool×Z1×Y5=>M I c B s.2.1) (fun o=>o.thn (fun(x3,x4,x5)=>some ((0:Int),{x4 with mem:=x5})) (fun r=>some r)) (fun z=>M I c B z.2)):=fun q hq=>
  Pw.bd (h.acts I c B _ _ hB hq) fun w hw=>Pw.cd (Pw.ok (Pw.ok hw)) (Pw.cd (Pw.cd (Pw.ok (Pw.ok hw)) (post w hw)) (Pw.cd (Pw.ok (Pw.ok hw)) (post w hw)))
 refine Pw.cd (Pw.sk fun _=>Pw.cd (Pw.ok (body _ hs2.same)) (Pw.bd (h.asked I c B _ _ hB hs2.same) fun z hz=>Pw.cd (Pw.ok (Pw.ok (Pw.ok hz))) (Pw.cd (Pw.ok (Pw.ok (Pw.ok hz))) (Pw.ok hz)))) (Pw.ok (body _ hs2.same))
theorem Q7t:∀n,P7 n
 |0=>⟨fun _ _ _ _ _ _ _ _ e=>(by cases e),fun _ _ _ _ _ _ _ _ e=>(by cases e),fun _ _ _ _ _ _ _ _ e=>(by cases e),fun _ _ _ _ _ _ _ _ e=>(by cases e),fun _ _ _ _ _ _ _ _ e=>(by cases e),fun _ _ _ _ _ _ _ _ e=>(by cases e),fun _ _ _ _ _ _ _ _ e=>(by cases e),fun _ _ _ _ _ _ _ _ _ _ e=>(by cases e)⟩
 |n+1=>⟨terms_m (Q7t n),term_m (Q7t n),asked_m (Q7t n),loop_m (Q7t n),choose_m (Q7t n),act_m (Q7t n),acts_m (Q7t n),call_m (Q7t n)⟩
class Cy(Z:Type) where
 stq:Z->Z1
 fl:Z->Bool
 g:List Int->Int->Z->Z
 sg:∀J d z,stq (g J d z)=fi J d (stq z)
open Cy
instance{α:Type}:Cy (α×Bool×Z1):=⟨fun z=>z.2.2,fun z=>z.2.1,fi3,fun _ _ _=>rfl⟩
instance:Cy (Int×Z1):=⟨fun z=>z.2,fun z=>z.1 !=4,fi2,fun _ _ _=>rfl⟩
instance:Cy (Bool×Z1):=⟨fun z=>z.2,fun z=>z.1,fi2,fun _ _ _=>rfl⟩
instance{α:Type}:Cy (α×Z1×Y5):=⟨fun z=>z.2.1,fun _=>true,fun J d z=>(z.1,fi J d z.2.1,z.2.2),fun _ _ _=>rfl⟩
instance:Cy (List Y1×Int×Z1×Y5):=⟨fun z=>z.2.2.1,fun _=>true,fun J d z=>(z.1,z.2.1,fi J d z.2.2.1,z.2.2.2),fun _ _ _=>rfl⟩
instance{S R:Type}[Cy S][Cy R]:Cy (Lp S R):=⟨fun| .go s=>stq s| .brk s=>stq s| .ret r=>stq r,fun| .go s=>true| .brk s=>true| .ret r=>fl r,fun J d=>lmap (g J d) (g J d),fun J d z=>by cases z<;>exact sg J d _⟩
variable{I:List Int}{c:P2}{B:Int}{r:Z1}{n:Nat}{J:List Int}{d N:Int}
def Pm{Z:Type}[Cy Z](I:List Int)(c:P2)(B:Int)(y:Option Z):Prop:=Pw y (fun z=>M I c B (stq z))
def Tw{Z:Type}[Cy Z](J:List Int)(d N B:Int)(y y':Option Z):Prop:=∀z,y=some z->y'=some (g J d z)\/N<(stq z).out.Ins\/(0<d/\fl z=false/\(stq z).out.E=16/\Pm J (stq z).out (B+d) y')
section
variable{Z X C S R:Type}[Cy Z][Cy X][Cy S][Cy R]
theorem Tw.ok{z z':Z}(h:z'=g J d z:=by rfl):Tw J d N B (some z) (some z'):=fun x e=>by cases e;exact .inl (by rw[h])
theorem Tw.sk{m:Option C}{f f':C->Option Z}(k:∀x,Tw J d N B (f x) (f' x)):Tw J d N B (m.bind f) (m.bind f'):=by
 cases m with
 |none=>exact fun z e=>by cases e
 |some x=>exact k x
theorem Tw.cd{b:Bool}{x y x' y':Option Z}(h:Tw J d N B x x')(k:Tw J d N B y y'):Tw J d N B (bif b then x else y) (bif b then x' else y'):=by cases b<;>assumption
theorem Tw.eo{X D:Type}{h:X->D}{m:Option X}{m':Option D}{f:X->Option Z}{f':D->Option Z}(e:Eo h m' m)(k:∀x,m=some x->Tw J d N B (f x) (f' (h x))):Tw J d N B (m.bind f) (m'.bind f'):=by
 unfold Eo at e;rw[e];cases hm:m with
 |none=>exact fun z e=>by cases e
 |some x=>exact k x hm
theorem M.hd{o:P2}(h:M I o B r):∀{a:P2},a.Out=o.Out->a.Ins=o.Ins->M I a B r:=fun e1 e2=>⟨h.j,h.f,h.i,h.b,h.l,by rw[e1];exact h.o,by rw[e2];exact h.n⟩
structure On[Cy X][Cy Z](f:X->Option Z):Prop where
 m:∀I c B x,B<=1000000000->M I c B (stq x)->Pm I c B (f x)
def Sp(f:X->Option Z):Prop:=∀x,fl x=false->Pw (f x) (fun z=>fl z=false/\(stq z).out=(stq x).out)
theorem Tw.bd{m m':Option X}{f f':X->Option Z}(h:Tw J d N B m m')(hm:Pm I c B m)(hB:B+d<=1000000000)(hd:0<=d)(k:∀x,M I c B (stq x)->Tw J d N B (f x) (f' (g J d x)))(ks:Sp f)(kl:On f)(kr:On f'):Tw J d N B (m.bind f) (m'.bind f'):=by
 intro z e;cases hx:m with
 |none=>rw[hx]at e;cases e
 |some x=>
  rw[hx]at e;have e:f x=some z:=e;have hM:=hm x hx
  rcases h x hx with h|h|⟨h0,h1,h2,h3⟩
  . rw[h];exact k x hM z e
  . refine .inr (.inl ?_);have:=(kl.m I {(stq x).out with Out:=[]} B x (by omega) ⟨hM.j,hM.f,hM.i,hM.b,hM.l,List.nil_prefix,qC _⟩ z e).n
    dsimp only at this
    omega
  . obtain⟨q1,q2⟩:=ks x h1 z e;exact .inr (.inr ⟨h0,q1,by rw[q2];exact h2,by rw[q2];exact Pw.bd h3 fun x' hx'=>kr.m _ _ _ x' hB hx'⟩)
theorem Pm.lp{b:S->Option (Lp S R)}(hb:On b)(hB:B<=1000000000):∀n s,M I c B (stq s)->Pm I c B (X5 b n s)
 |0,s,h=>fun z e=>by cases e
 |n+1,s,h=>by
  intro z e
  unfold X5 at e
  cases ho:b s with
  |none=>rw[ho]at e;cases e
  |some o=>
   rw[ho]at e
   have hM:=hb.m I c B s hB h o ho
   cases o with
   |go s1=>exact Pm.lp hb hB n s1 hM z e
   |brk s1=>cases e;exact hM
   |ret q=>cases e;exact hM
theorem Tw.lp{b b':S->Option (Lp S R)}(hB:B+d<=1000000000)(hd:0<=d)(hb:∀s,M I c B (stq s)->Tw J d N B (b s) (b' (g J d s)))(kl:On b)(kr:On b'):∀n s,M I c B (stq s)->Tw J d N B (X5 b n s) (X5 b' n (g J d s))
 |0,s,h=>fun z e=>by cases e
 |n+1,s,h=>by
  intro z e
  unfold X5 at e⊢
  cases ho:b s with
  |none=>rw[ho]at e;cases e
  |some o=>
   rw[ho]at e
   have hM:=kl.m I c B s (by omega) h o ho
   rcases hb s h o ho with h1|h1|⟨h0,h1,h2,h3⟩
   . rw[h1]
     cases o with
     |go s1=>exact Tw.lp hB hd hb kl kr n s1 hM z e
     |brk s1=>cases e;exact .inl rfl
     |ret q=>cases e;exact .inl rfl
   . refine .inr (.inl ?_)
     cases o with
     |go s1=>
      have:=(Pm.lp (c:={(stq s1).out with Out:=[]}) kl (by omega) n s1 ⟨hM.j,hM.f,hM.i,hM.b,hM.l,List.nil_prefix,qC _⟩ z e).n
      have h1:N<(stq s1).out.Ins:=h1
      dsimp only at this
      omega
     |brk s1=>cases e;exact h1
     |ret q=>cases e;exact h1
   . cases o with
     |go s1=>cases h1
     |brk s1=>cases h1
     |ret q=>
      cases e
      refine .inr (.inr ⟨h0,h1,h2,?_⟩)
      intro z' e'
      cases hq:b' (g J d s)with
      |none=>rw[hq]at e';cases e'
      |some o'=>
       rw[hq]at e'
       have h4:=h3 o' hq
       cases o' with
       |go s2=>exact Pm.lp kr (by omega) n s2 h4 z' e'
       |brk s2=>cases e';exact h4
       |ret q2=>cases e';exact h4
end
def rdI(l:List Int)(i:Int):Int:=if i<l.length then(l[i.toNat]?).getD 0 else 0
def Agr(I J:List Int)(N:Int):Prop:=∀i,0<=i->i<N->rdI I i=rdI J i
theorem Tw.eq{Z X:Type}[Cy Z]{gg:X->X}{m m':Option X}{f f':X->Option Z}(e:∀z,m=some z->m'=some (gg z))(k:∀x,m=some x->Tw J d N B (f x) (f' (gg x))):Tw J d N B (m.bind f) (m'.bind f'):=by
 cases hm:m with
 |none=>exact fun z e=>by cases e
 |some x=>rw[e x hm];exact k x hm
theorem X3n(h:M I c B r)(hB:B+d<=1000000000)(hd:0<=d):(∀z,V6 r=some z->V6 (fi J d r)=some (fi2 J d z))\/(0<d/\∃x,V6 r=some (false,x)/\x.out.E=16/\x.out.Out=r.out.Out/\x.out.Ins=r.out.Ins):=by
 have hf:=h.f;have hi:=h.i;have hb:=h.b;cases he:r.out.E !=0 with
 |true=>
  refine .inl fun z e=>?_;unfold V6 at e⊢;show(bif r.out.E !=0 then _ else _)=_;rw[he]at e⊢;cases e
  rfl
 |false=>
  by_cases h0:r.fuel=0
  . by_cases hd0:d=0
    . refine .inl fun z e=>?_;subst hd0;unfold V6 at e⊢;show(bif r.out.E !=0 then _ else _)=_;rw[he,c0 (b:=false) rfl,c1 (by rw[h0];rfl)]at e;rw[he,c0 (b:=false) rfl,c1 (by show(r.fuel+0==0)=true;rw[h0];rfl)];have h1:=Y9v (J:=J) (d:=0) r 16;unfold Eo at h1;rw[h1];cases hs:J4 r 16 with
      |none=>rw[hs]at e;cases e
      |some x=>rw[hs]at e;cases e;rfl
    . refine .inr ⟨by omega,{r with out:={r.out with E:=16}},?_,rfl,rfl,rfl⟩;have e0:(r.out.E==0)=true:=by simpa using he
      unfold V6 J4
      dsimp only[jn]
      rw[he,c0 (b:=false) rfl,c1 (b:=r.fuel==0) (by rw[h0];rfl),c1 (b:=r.out.E==0) e0]
      rfl
  . refine .inl fun z e=>?_;unfold V6 at e⊢;show(bif r.out.E !=0 then _ else _)=_;rw[he,c0 (b:=false) rfl,c0 (by simpa using h0)]at e;rw[he,c0 (b:=false) rfl,c0 (by show(r.fuel+d==0)=false;simpa using(by omega:¬r.fuel+d=0))];cases e;have e1:qJ .i64 ((fi J d r).fuel-1)=qJ .i64 (r.fuel-1)+d:=by show qJ .i64 (r.fuel+d-1)=_;rw[w64 (by omega),w64 (by omega)];omega
    rw[e1]
    rfl
theorem M.other(h:M I c B r)(hd:0<=d){o:P2}(e1:o.Out=r.out.Out)(e2:o.Ins=r.out.Ins):M J o (B+d) (fi J d r):=by
 have hf:=h.f;have hi:=h.i;have hb:=h.b;have hl:=h.l;exact⟨rfl,by show 0<=r.fuel+d;omega,hi,by show r.out.Ins+(r.fuel+d)<=_;omega,by show(r.out.Out.length:Int)+(r.fuel+d)<=_;omega,by rw[e1];exact jJ _,by rw[e2];exact qC _⟩
theorem told12(h:M I c B r)(hB:B<=1000000000)(hJ:Agr I J N)(t:Y6)(l:List Y1)(h12:t.Kind=12)(hN:r.out.Ins<N):Eo (fi3 J d) (V4 (fi J d r) t l) (V4 r t l):=by
 have hf:=h.f;have hi:=h.i;have hb:=h.b;unfold V4;rw[h12]
 dsimp only[jn]
 rw[c0 (b:=(12:Int)==2) rfl,c0 (b:=(12:Int)==3) rfl,c0 (b:=(12:Int)==4) rfl,c0 (b:=(12:Int)==5) rfl,c0 (b:=(12:Int)==6) rfl,c0 (b:=(12:Int)==11) rfl,c1 (b:=(12:Int)==12) rfl];rw[c0 (b:=(12:Int)==2) rfl,c0 (b:=(12:Int)==3) rfl,c0 (b:=(12:Int)==4) rfl,c0 (b:=(12:Int)==5) rfl,c0 (b:=(12:Int)==6) rfl,c0 (b:=(12:Int)==11) rfl,c1 (b:=(12:Int)==12) rfl]
 have key:∀{Z:Type}(K:List Int)(f:Y1->Option Z),(bif decide (qJ .i64 (r.out.Ins+1)<=(K.length:Int))then((idx K (qJ .i64 (qJ .i64 (r.out.Ins+1)-1))).bind fun u=>(H8 u).bind f)else((H8 0).bind f))=(H8 (rdI K r.out.Ins)).bind f:=by
  intro Z K f;rw[w64 (x:=r.out.Ins+1) (by omega),w64 (x:=r.out.Ins+1-1) (by omega)];unfold rdI
  by_cases hk:r.out.Ins<(K.length:Int)
  . rw[c1 (dt (by omega)),if_pos hk];obtain⟨u,eu,_⟩:=J2 (l:=K) (n:=r.out.Ins+1-1) (by omega);rw[eu]
    have:K[r.out.Ins.toNat]?=some u:=by
     have e2:r.out.Ins+1-1=r.out.Ins:=by omega
     rw[e2]at eu;unfold idx at eu
     rwa[if_pos hi]at eu
    rw[this]
    rfl
  . rw[c0 (df (by omega)),if_neg hk]
 unfold Eo;refine(key J (fun y=>some (y,(0:Int),({fi J d r with out:={r.out with Ins:=qJ .i64 (r.out.Ins+1)}}:Z1)))).trans ?_;refine Eq.trans ?_ (congrArg (Option.map (fi3 J d)) (key r.inputs (fun y=>some (y,(0:Int),({r with out:={r.out with Ins:=qJ .i64 (r.out.Ins+1)}}:Z1))))).symm;rw[h.j,hJ _ hi hN];cases H8 (rdI J r.out.Ins)<;>rfl
theorem told_t(h:M I c B r)(hB:B<=1000000000)(hJ:Agr I J N)(t:Y6)(l:List Y1):Eo (fi3 J d) (V4 (fi J d r) t l) (V4 r t l)\/(∀z,V4 r t l=some z->N<z.2.2.out.Ins):=by
 by_cases h12:t.Kind=12
 . by_cases hN:r.out.Ins<N
   . exact .inl (told12 h hB hJ t l h12 hN)
   . right
     have hf:=h.f;have hi:=h.i;have hb:=h.b;have hx:N<qJ .i64 (r.out.Ins+1):=by rw[w64 (by omega)];omega
     have:Pw (V4 r t l) (fun z=>N<z.2.2.out.Ins):=by
      unfold V4;rw[h12]
      dsimp only[jn]
      rw[c0 (b:=(12:Int)==2) rfl,c0 (b:=(12:Int)==3) rfl,c0 (b:=(12:Int)==4) rfl,c0 (b:=(12:Int)==5) rfl,c0 (b:=(12:Int)==6) rfl,c0 (b:=(12:Int)==11) rfl,c1 (b:=(12:Int)==12) rfl];exact Pw.cd (Pw.sk fun _=>Pw.sk fun _=>Pw.ok hx) (Pw.sk fun _=>Pw.ok hx)
     exact this
 . exact .inl (told_f r t l h12)
open Cy
variable{I:List Int}{c:P2}{B:Int}{r:Z1}{n:Nat}{J:List Int}{d N:Int}
theorem Pw.cf{Z:Type}{Q:Z->Prop}{b:Bool}{x y:Option Z}(hb:b=true)(h:Pw x Q):Pw (bif b then x else y) Q:=by subst hb;exact h
theorem ngq{b:Bool}(h:b=false):(!b)=true:=by rw[h];rfl
theorem nf4{k:Int}(h:(k !=4)=false):k=4:=by simpa using h
theorem Tw.bs{Z X:Type}[Cy Z][Cy X]{m m':Option X}{f:X->Option Z}(h:Tw J d N B m m')(hm:Pm I c B m)(hB:B+d<=1000000000)(hd:0<=d)(k:∀x,M I c B (stq x)->Tw J d N B (f x) (f (g J d x)))(ks:Sp f)(kl:∀I c B x,B<=1000000000->M I c B (stq x)->Pm I c B (f x)):Tw J d N B (m.bind f) (m'.bind f):=Tw.bd h hm hB hd k ks ⟨kl⟩ ⟨kl⟩
theorem Tw.ls{S R:Type}[Cy S][Cy R]{b:S->Option (Lp S R)}(hB:B+d<=1000000000)(hd:0<=d)(hb:∀s,M I c B (stq s)->Tw J d N B (b s) (b (g J d s)))(kl:∀I c B s,B<=1000000000->M I c B (stq s)->Pm I c B (b s)){n:Nat}{s:S}(h:M I c B (stq s)){Z:Type}[Cy Z]{f:Lp S R->Option Z}(k:∀o,M I c B (stq o)->Tw J d N B (f o) (f (g J d o)))(ks:Sp f)(km:∀I c B o,B<=1000000000->M I c B (stq o)->Pm I c B (f o)):Tw J d N B ((X5 b n s).bind f) ((X5 b n (g J d s)).bind f):=
 Tw.bs (Tw.lp hB hd hb ⟨kl⟩ ⟨kl⟩ n s h) (Pm.lp ⟨kl⟩ (by omega) n s h) hB hd k ks km
structure T7(J:List Int)(d N:Int)(n:Nat):Prop where
 terms:∀I c B r l,B+d<=1000000000->Agr I J N->M I c B r->Tw J d N B ((D7 n).F1 r l) ((D7 n).F1 (fi J d r) l)
 term:∀I c B r t,B+d<=1000000000->Agr I J N->M I c B r->Tw J d N B ((D7 n).X2 r t) ((D7 n).X2 (fi J d r) t)
 asked:∀I c B r t,B+d<=1000000000->Agr I J N->M I c B r->Tw J d N B ((D7 n).V2 r t) ((D7 n).V2 (fi J d r) t)
 loop:∀I c B r a,B+d<=1000000000->Agr I J N->M I c B r->Tw J d N B ((D7 n).E1 r a) ((D7 n).E1 (fi J d r) a)
 choose:∀I c B r a,B+d<=1000000000->Agr I J N->M I c B r->Tw J d N B ((D7 n).G6 r a) ((D7 n).G6 (fi J d r) a)
 act:∀I c B r a,B+d<=1000000000->Agr I J N->M I c B r->Tw J d N B ((D7 n).B9 r a) ((D7 n).B9 (fi J d r) a)
 acts:∀I c B r l,B+d<=1000000000->Agr I J N->M I c B r->Tw J d N B ((D7 n).V5 r l) ((D7 n).V5 (fi J d r) l)
 call:∀I c B r v l p,B+d<=1000000000->Agr I J N->M I c B r->Tw J d N B ((D7 n).K5 r v l p) ((D7 n).K5 (fi J d r) v l p)
theorem asked_t(hd:0<=d)(h:T7 J d N n):∀I c B r t,B+d<=1000000000->Agr I J N->M I c B r->Tw J d N B (P1 (D7 n) r t) (P1 (D7 n) (fi J d r) t):=by
 intro I c B r t hB hJ hr;unfold P1;exact Tw.bs (h.term I c B r t hB hJ hr) ((Q7t n).term I c B r t (by omega) hr) hB hd (fun y hy=>Tw.sk fun b=>Tw.ok) (fun x e=>Pw.sk fun _=>Pw.ok ⟨e,rfl⟩) (fun I c B y hB hy=>Pw.sk fun _=>Pw.ok hy)
theorem terms_t(hd:0<=d)(h:T7 J d N n):∀I c B r l,B+d<=1000000000->Agr I J N->M I c B r->Tw J d N B (P0 (D7 n) r l) (P0 (D7 n) (fi J d r) l):=by
 intro I c B r l hB hJ hr;unfold P0;refine Tw.ls (I:=I) (c:=c) hB hd (fun s hs=>?_) (fun I c B s hB hs=>?_) (s:=(([]:List Y1),(0:Int),r,r.mem)) hr (fun o ho=>?_) (fun o e=>?_) (fun I c B o hB ho=>?_)
 . exact Tw.cd (Tw.sk fun u=>Tw.bs (h.term I c B _ u hB hJ hs.same) ((Q7t n).term I c B _ u (by omega) hs.same) hB hd (fun y hy=>Tw.cd Tw.ok (Tw.sk fun _=>Tw.ok)) (fun x e=>Pw.cf (ngq e) (Pw.ok ⟨rfl,rfl⟩)) (fun I c B y hB hy=>Pw.cd (Pw.ok hy) (Pw.sk fun _=>Pw.ok hy))) Tw.ok
 . exact Pw.cd (Pw.sk fun _=>Pw.bd ((Q7t n).term I c B _ _ hB hs.same) fun y hy=>Pw.cd (Pw.ok hy) (Pw.sk fun _=>Pw.ok hy)) (Pw.ok hs.same)
 . cases o with
   |go s=>exact fun z e=>by cases e
   |brk s=>exact Tw.ok
   |ret q=>exact Tw.ok
 . cases o with
   |go s=>cases e
   |brk s=>cases e
   |ret q=>exact Pw.ok ⟨e,rfl⟩
 . cases o with
   |go s=>exact fun z e=>by cases e
   |brk s=>exact Pw.ok ho.same
   |ret q=>exact Pw.ok ho
theorem acts_t(hd:0<=d)(h:T7 J d N n):∀I c B r l,B+d<=1000000000->Agr I J N->M I c B r->Tw J d N B (N3 (D7 n) r l) (N3 (D7 n) (fi J d r) l):=by
 intro I c B r l hB hJ hr;unfold N3;refine Tw.ls (I:=I) (c:=c) hB hd (fun s hs=>?_) (fun I c B s hB hs=>?_) (s:=((0:Int),r,r.mem)) hr (fun o ho=>?_) (fun o e=>?_) (fun I c B o hB ho=>?_)
 . exact Tw.cd (Tw.sk fun u=>Tw.bs (h.act I c B _ u hB hJ hs.same) ((Q7t n).act I c B _ u (by omega) hs.same) hB hd (fun y hy=>Tw.cd Tw.ok Tw.ok) (fun x e=>Pw.cf (by rw[nf4 e];rfl) (Pw.ok ⟨e,rfl⟩)) (fun I c B y hB hy=>Pw.cd (Pw.ok hy) (Pw.ok hy))) Tw.ok
 . exact Pw.cd (Pw.sk fun _=>Pw.bd ((Q7t n).act I c B _ _ hB hs.same) fun y hy=>Pw.cd (Pw.ok hy) (Pw.ok hy)) (Pw.ok hs.same)
 . cases o with
   |go s=>exact fun z e=>by cases e
   |brk s=>exact Tw.ok
   |ret q=>exact Tw.ok
 . cases o with
   |go s=>cases e
   |brk s=>cases e
   |ret q=>exact Pw.ok ⟨e,rfl⟩
 . cases o with
   |go s=>exact fun z e=>by cases e
   |brk s=>exact Pw.ok ho.same
   |ret q=>exact Pw.ok ho
theorem choose_t(hd:0<=d)(h:T7 J d N n):∀I c B r a,B+d<=1000000000->Agr I J N->M I c B r->Tw J d N B (D8 (D7 n) r a) (D8 (D7 n) (fi J d r) a):=by
 intro I c B r a hB hJ hr;unfold D8
 dsimp only[jn]
 refine Tw.sk fun u=>Tw.bs (h.term I c B r u hB hJ hr) ((Q7t n).term I c B r u (by omega) hr) hB hd (fun y hy=>Tw.cd Tw.ok (Tw.sk fun o=>?_)) (fun x e=>Pw.cf (ngq e) (Pw.ok ⟨rfl,rfl⟩)) (fun I c B y hB hy=>Pw.cd (Pw.ok hy) (Pw.sk fun o=>?_))
 . cases o with
   |go _=>exact fun z e=>by cases e
   |ret _=>exact fun z e=>by cases e
   |brk _=>
    refine Tw.sk fun o=>?_;cases o with
    |go _=>exact fun z e=>by cases e
    |ret _=>exact fun z e=>by cases e
    |brk _=>
     refine Tw.sk fun u5=>Tw.ls (I:=I) (c:=c) hB hd (fun s hs=>?_) (fun I c B s hB hs=>?_) (s:=((0:Int),y.2.2,y.2.2.mem)) hy (fun o ho=>?_) (fun o e=>?_) (fun I c B o hB ho=>?_)
     . exact Tw.cd (Tw.sk fun u=>Tw.bs (h.acts I c B _ u.Body hB hJ hs.same) ((Q7t n).acts I c B _ u.Body (by omega) hs.same) hB hd (fun y hy=>Tw.cd Tw.ok (Tw.cd Tw.ok Tw.ok)) (fun x e=>by
        have e4:=nf4 e;refine(?_:Pw (bif x.1==1 then _ else _) _);rw[e4];exact Pw.ok ⟨by rfl,rfl⟩) (fun I c B y hB hy=>Pw.cd (Pw.ok hy) (Pw.cd (Pw.ok hy) (Pw.ok hy)))) Tw.ok
     . exact Pw.cd (Pw.sk fun _=>Pw.bd ((Q7t n).acts I c B _ _ hB hs.same) fun w hw=>Pw.cd (Pw.ok hw) (Pw.cd (Pw.ok hw) (Pw.ok hw))) (Pw.ok hs.same)
     . cases o with
       |go s=>exact fun z e=>by cases e
       |brk s=>exact Tw.ok
       |ret q=>exact Tw.ok
     . cases o with
       |go s=>cases e
       |brk s=>cases e
       |ret q=>exact Pw.ok ⟨e,rfl⟩
     . cases o with
       |go s=>exact fun z e=>by cases e
       |brk s=>exact Pw.ok ho.same
       |ret q=>exact Pw.ok ho
 . cases o with
   |go _=>exact fun z e=>by cases e
   |ret _=>exact fun z e=>by cases e
   |brk _=>
    refine Pw.sk fun o=>?_;cases o with
    |go _=>exact fun z e=>by cases e
    |ret _=>exact fun z e=>by cases e
    |brk _=>exact Pw.sk fun _=>Pw.lp (fun s=>M I c B s.2.1) hy fun s hs=>Pw.cd (Pw.sk fun _=>Pw.bd ((Q7t n).acts I c B _ _ hB hs.same) fun w hw=>Pw.cd (Pw.ok (Pw.ok hw)) (Pw.cd (Pw.ok hw) (Pw.ok (Pw.ok hw)))) (Pw.ok (Pw.ok hs.same))
theorem call_t(hd:0<=d)(h:T7 J d N n):∀I c B r v l p,B+d<=1000000000->Agr I J N->M I c B r->Tw J d N B (N2 (D7 n) r v l p) (N2 (D7 n) (fi J d r) v l p):=by
 intro I c B r v l p hB hJ hr;unfold N2;refine Tw.cd (Tw.eo (Y9v r _) fun x _=>Tw.ok) (Tw.sk fun u=>Tw.sk fun y=>Tw.eo (enter_e {r with deep:=qJ .i64 (r.deep+1),ret:=y} u l) fun w hw=>?_);have hM:=X4s (r:={r with deep:=qJ .i64 (r.deep+1),ret:=y}) hr.same u l w hw;refine Tw.cd Tw.ok (Tw.bs (h.acts I c B _ _ hB hJ hM) ((Q7t n).acts I c B _ _ (by omega) hM) hB hd (fun z hz=>Tw.cd Tw.ok (Tw.sk fun o=>?_)) (fun x e=>Pw.cf (by rw[nf4 e];rfl) (Pw.ok ⟨rfl,rfl⟩)) (fun I c B z hB hz=>Pw.cd (Pw.ok hz) (Pw.sk fun o=>?_)))
 . cases o with
   |go _=>exact fun z e=>by cases e
   |ret _=>exact fun z e=>by cases e
   |brk _=>exact Tw.ok
 . cases o with
   |go _=>exact fun z e=>by cases e
   |ret _=>exact fun z e=>by cases e
   |brk _=>exact Pw.ok hz.same
theorem step_t(h:M I c B r)(hB:B+d<=1000000000)(hd:0<=d):Tw J d N B (V6 r) (V6 (fi J d r)):=by
 intro z e
 rcases X3n (J:=J) h hB hd with h1|⟨h0,x,ex,e16,eo,ei⟩
 . exact .inl (h1 z e)
 . rw[ex]at e;cases e;exact .inr (.inr ⟨h0,rfl,e16,fun z' e'=>(Z8h (h.other hd eo ei) hB z' e').1⟩)
theorem Tw.hand{m m':Option (Int×Z1)}(h:Tw J d N B m m')(hm:Pm I c B m)(hB:B+d<=1000000000)(hd:0<=d):Tw J d N B (m.bind fun y=>some (y.1,y.2)) (m'.bind fun y=>some (y.1,y.2)):=
 Tw.bs h hm hB hd (fun w hw=>Tw.ok) (fun x e=>Pw.ok ⟨e,rfl⟩) (fun I c B w hB hw=>Pw.ok hw)
theorem act_t(hd:0<=d)(h:T7 J d N n):∀I c B r a,B+d<=1000000000->Agr I J N->M I c B r->Tw J d N B (P3 (D7 n) r a) (P3 (D7 n) (fi J d r) a):=by
 intro I c B r a hB hJ hr
 rcases X3n (J:=J) hr hB hd with e|⟨h0,x,ex,e16,eo,ei⟩
 . unfold P3
   dsimp only[jn]
   refine Tw.eq e (fun y hy=>Tw.cd Tw.ok ?_);have hM:=(Z8h hr (by omega) y hy).1;refine Tw.cd (Tw.sk fun u=>Tw.bs (h.asked I c B _ u hB hJ hM) ((Q7t n).asked I c B _ u (by omega) hM) hB hd (fun z hz=>Tw.cd Tw.ok (Tw.cd (Tw.hand (h.acts I c B _ _ hB hJ hz) ((Q7t n).acts I c B _ _ (by omega) hz) hB hd) (Tw.hand (h.acts I c B _ _ hB hJ hz) ((Q7t n).acts I c B _ _ (by omega) hz) hB hd))) (fun x e=>Pw.cf (ngq e) (Pw.ok ⟨rfl,rfl⟩)) (fun I c B z hB hz=>Pw.cd (Pw.ok hz) (Pw.cd (Pw.bd ((Q7t n).acts I c B _ _ hB hz) fun w hw=>Pw.ok hw) (Pw.bd ((Q7t n).acts I c B _ _ hB hz) fun w hw=>Pw.ok hw)))) ?_;refine Tw.cd (Tw.hand (h.loop I c B _ _ hB hJ hM) ((Q7t n).loop I c B _ _ (by omega) hM) hB hd) (Tw.cd (Tw.hand (h.choose I c B _ _ hB hJ hM) ((Q7t n).choose I c B _ _ (by omega) hM) hB hd) (Tw.cd (Tw.hand (h.acts I c B _ _ hB hJ hM) ((Q7t n).acts I c B _ _ (by omega) hM) hB hd) (Tw.cd Tw.ok (Tw.cd Tw.ok (Tw.cd (Tw.sk fun u=>Tw.sk fun q=>Tw.eo (Y5l {y.2 with mem:=q.2} _) fun w hw=>Tw.cd Tw.ok Tw.ok) ?_)))));refine Tw.ls (I:=I) (c:=c) hB hd (fun s hs=>?_) (fun I c B s hB hs=>?_) (s:=((0:Int),y.2,y.2.mem)) hM (fun o ho=>?_) (fun o e=>?_) (fun I c B o hB ho=>?_)
   . exact Tw.cd (Tw.sk fun u=>Tw.bs (h.term I c B _ u hB hJ hs.same) ((Q7t n).term I c B _ u (by omega) hs.same) hB hd (fun z hz=>Tw.cd Tw.ok (Tw.cd Tw.ok Tw.ok)) (fun x e=>Pw.cf (ngq e) (Pw.ok ⟨rfl,rfl⟩)) (fun I c B z hB hz=>Pw.cd (Pw.ok hz) (Pw.cd (Pw.ok hz.same) (Pw.ok hz)))) Tw.ok
   . exact Pw.cd (Pw.sk fun _=>Pw.bd ((Q7t n).term I c B _ _ hB hs.same) fun z hz=>Pw.cd (Pw.ok hz) (Pw.cd (Pw.ok hz.same) (Pw.ok hz))) (Pw.ok hs.same)
   . cases o with
     |go s=>exact fun z e=>by cases e
     |brk s=>exact Tw.cd Tw.ok Tw.ok
     |ret q=>exact Tw.ok
   . cases o with
     |go s=>cases e
     |brk s=>cases e
     |ret q=>exact Pw.ok ⟨e,rfl⟩
   . cases o with
     |go s=>exact fun z e=>by cases e
     |brk s=>exact Pw.cd (Pw.ok ho.same) (Pw.ok ho.same)
     |ret q=>exact Pw.ok ho
 . intro z ez;unfold P3 at ez;rw[ex]at ez;have ez:some ((4:Int),x)=some z:=ez;cases ez;exact .inr (.inr ⟨h0,rfl,e16,act_m (Q7t n) J x.out (B+d) (fi J d r) a hB (hr.other hd eo ei)⟩)
theorem loop_t(hd:0<=d)(h:T7 J d N n):∀I c B r a,B+d<=1000000000->Agr I J N->M I c B r->Tw J d N B (N1 (D7 n) r a) (N1 (D7 n) (fi J d r) a):=by
 intro I c B r a hB hJ hr;unfold N1
 dsimp only[jn]
 -- the posts, and a step
 have pm:∀I c B (q:Int×Z1),B<=1000000000->M I c B q.2->Pw ((X5 (fun(x14,x15,x16)=>(bif decide (x14<(qQ a.Post:Int))then((idx a.Post x14).bind fun u2=>((D7 n).X2 ({x15 with mem:=x16}) u2).bind fun y2=>bif !y2.2.1 then(some (Lp.ret ((4:Int),y2.2.2)))else(some (Lp.go (qJ .i64 (x14+1),y2.2.2,y2.2.2.mem))))else(some (Lp.brk (x14,{x15 with mem:=x16},x16))):Option (Lp (Int×Z1×Y5) (Int×Z1)))) NN ((0:Int),q.2,q.2.mem)).bind fun o=>o.thn (fun(x14,x15,x16)=>(V6 ({x15 with mem:=x16})).bind fun y3=>bif !y3.1 then(some (Lp.ret ((4:Int),y3.2)))else(some (Lp.go (true,y3.2,y3.2.mem)))) (fun r=>some (Lp.ret r))) (fun o:Lp (Bool×Z1×Y5) (Int×Z1)=>M I c B (stq o)):=fun I c B q hB hq=>
  Pw.lp (fun s=>M I c B s.2.1) hq fun s hs=>Pw.cd (Pw.sk fun _=>Pw.bd ((Q7t n).term I c B _ _ hB hs.same) fun z hz=>Pw.cd (Pw.ok (Pw.ok hz)) (Pw.ok hz)) (Pw.ok (Pw.bd (Z8h (r:={s.2.1 with mem:=s.2.2}) hs.same hB) fun w hw=>Pw.cd (Pw.ok hw.1) (Pw.ok hw.1)))
 have pt:∀(q:Int×Z1),M I c B q.2->Tw J d N B ((X5 (fun(x14,x15,x16)=>(bif decide (x14<(qQ a.Post:Int))then((idx a.Post x14).bind fun u2=>((D7 n).X2 ({x15 with mem:=x16}) u2).bind fun y2=>bif !y2.2.1 then(some (Lp.ret ((4:Int),y2.2.2)))else(some (Lp.go (qJ .i64 (x14+1),y2.2.2,y2.2.2.mem))))else(some (Lp.brk (x14,{x15 with mem:=x16},x16))):Option (Lp (Int×Z1×Y5) (Int×Z1)))) NN ((0:Int),q.2,q.2.mem)).bind fun o=>o.thn (fun(x14,x15,x16)=>(V6 ({x15 with mem:=x16})).bind fun y3=>bif !y3.1 then(some (Lp.ret ((4:Int),y3.2)))else(some (Lp.go (true,y3.2,y3.2.mem)))) (fun r=>some (Lp.ret r):Int×Z1->Option (Lp (Bool×Z1×Y5) (Int×Z1)))) ((X5 (fun(x14,x15,x16)=>(bif decide (x14<(qQ a.Post:Int))then((idx a.Post x14).bind fun u2=>((D7 n).X2 ({x15 with mem:=x16}) u2).bind fun y2=>bif !y2.2.1 then(some (Lp.ret ((4:Int),y2.2.2)))else(some (Lp.go (qJ .i64 (x14+1),y2.2.2,y2.2.2.mem))))else(some (Lp.brk (x14,{x15 with mem:=x16},x16))):Option (Lp (Int×Z1×Y5) (Int×Z1)))) NN (g J d ((0:Int),q.2,q.2.mem))).bind fun o=>o.thn (fun(x14,x15,x16)=>(V6 ({x15 with mem:=x16})).bind fun y3=>bif !y3.1 then(some (Lp.ret ((4:Int),y3.2)))else(some (Lp.go (true,y3.2,y3.2.mem)))) (fun r=>some (Lp.ret r))):=fun q hq=>by
  refine Tw.ls (I:=I) (c:=c) hB hd (fun s hs=>?_) (fun I c B s hB hs=>?_) (s:=((0:Int),q.2,q.2.mem)) hq (fun o ho=>?_) (fun o e=>?_) (fun I c B o hB ho=>?_)
  . exact Tw.cd (Tw.sk fun u=>Tw.bs (h.term I c B _ u hB hJ hs.same) ((Q7t n).term I c B _ u (by omega) hs.same) hB hd (fun z hz=>Tw.cd Tw.ok Tw.ok) (fun x e=>Pw.cf (ngq e) (Pw.ok ⟨rfl,rfl⟩)) (fun I c B z hB hz=>Pw.cd (Pw.ok hz) (Pw.ok hz))) Tw.ok
  . exact Pw.cd (Pw.sk fun _=>Pw.bd ((Q7t n).term I c B _ _ hB hs.same) fun z hz=>Pw.cd (Pw.ok hz) (Pw.ok hz)) (Pw.ok hs.same)
  . cases o with
    |go s=>exact fun z e=>by cases e
    |brk s=>
     have hM:M I c B {s.2.1 with mem:=s.2.2}:=M.same ho;exact Tw.bs (step_t hM hB hd) (fun z e=>(Z8h hM (by omega) z e).1) hB hd (fun y hy=>Tw.cd Tw.ok Tw.ok) (fun x e=>Pw.cf (ngq e) (Pw.ok ⟨rfl,rfl⟩)) (fun I c B y hB hy=>Pw.cd (Pw.ok hy) (Pw.ok hy))
    |ret q=>exact Tw.ok
  . cases o with
    |go s=>cases e
    |brk s=>cases e
    |ret q=>exact Pw.ok ⟨e,rfl⟩
  . cases o with
    |go s=>exact fun z e=>by cases e
    |brk s=>exact Pw.bd (Z8h (r:={s.2.1 with mem:=s.2.2}) (M.same ho) hB) fun w hw=>Pw.cd (Pw.ok hw.1) (Pw.ok hw.1)
    |ret q=>exact Pw.ok ho
 refine Tw.ls (I:=I) (c:=c) hB hd (fun s hs=>?_) (fun I c B s hB hs=>?_) (s:=((!a.First,r,r.mem):Bool×Z1×Y5)) hr (fun o ho=>?_) (fun o e=>?_) (fun I c B o hB ho=>?_)
 . refine Tw.ls (I:=I) (c:=c) hB hd (fun s2 hs2=>?_) (fun I c B s2 hB hs2=>?_) (s:=(((0:Int),{s.2.1 with mem:=s.2.2},s.2.2):Int×Z1×Y5)) (M.same hs) (fun o ho=>?_) (fun o e=>?_) (fun I c B o hB ho=>?_)
   . exact Tw.cd (Tw.sk fun u=>Tw.cd Tw.ok (Tw.bs (h.asked I c B _ u hB hJ hs2.same) ((Q7t n).asked I c B _ u (by omega) hs2.same) hB hd (fun z hz=>Tw.cd Tw.ok (Tw.cd Tw.ok Tw.ok)) (fun x e=>Pw.cf (ngq e) (Pw.ok ⟨rfl,rfl⟩)) (fun I c B z hB hz=>Pw.cd (Pw.ok hz) (Pw.cd (Pw.ok hz) (Pw.ok hz))))) Tw.ok
   . exact Pw.cd (Pw.sk fun _=>Pw.cd (Pw.ok hs2.same) (Pw.bd ((Q7t n).asked I c B _ _ hB hs2.same) fun z hz=>Pw.cd (Pw.ok hz) (Pw.cd (Pw.ok hz) (Pw.ok hz)))) (Pw.ok hs2.same)
   . cases o with
     |go s=>exact fun z e=>by cases e
     |ret q=>exact Tw.ok
     |brk s2=>
      have hM:M I c B {s2.2.1 with mem:=s2.2.2}:=M.same ho
      exact Tw.bs (h.acts I c B _ a.Body hB hJ hM) ((Q7t n).acts I c B _ a.Body (by omega) hM) hB hd (fun y hy=>Tw.cd Tw.ok (Tw.cd (Tw.cd Tw.ok (pt y hy)) (Tw.cd Tw.ok (pt y hy)))) (fun x e=>by
       have e4:=nf4 e;refine(?_:Pw (bif x.1==1 then _ else _) _);rw[e4];exact Pw.ok ⟨by rfl,rfl⟩) (fun I c B y hB hy=>Pw.cd (Pw.ok hy) (Pw.cd (Pw.cd (Pw.ok hy) (pm I c B y hB hy)) (Pw.cd (Pw.ok hy) (pm I c B y hB hy))))
   . cases o with
     |go s=>cases e
     |brk s=>cases e
     |ret q=>exact Pw.ok ⟨e,rfl⟩
   . cases o with
     |go s=>exact fun z e=>by cases e
     |ret q=>exact Pw.ok ho
     |brk s2=>exact Pw.bd ((Q7t n).acts I c B _ a.Body hB (M.same ho)) fun y hy=>Pw.cd (Pw.ok hy) (Pw.cd (Pw.cd (Pw.ok hy) (pm I c B y hB hy)) (Pw.cd (Pw.ok hy) (pm I c B y hB hy)))
 . refine Pw.lp (fun s2=>M I c B s2.2.1) hs.same fun s2 hs2=>?_;exact Pw.cd (Pw.sk fun _=>Pw.cd (Pw.ok (Pw.bd ((Q7t n).acts I c B _ a.Body hB hs2.same) fun y hy=>Pw.cd (Pw.ok hy) (Pw.cd (Pw.cd (Pw.ok hy) (pm I c B y hB hy)) (Pw.cd (Pw.ok hy) (pm I c B y hB hy))))) (Pw.bd ((Q7t n).asked I c B _ _ hB hs2.same) fun z hz=>Pw.cd (Pw.ok (Pw.ok hz)) (Pw.cd (Pw.ok (Pw.ok hz)) (Pw.ok hz)))) (Pw.ok (Pw.bd ((Q7t n).acts I c B _ a.Body hB hs2.same) fun y hy=>Pw.cd (Pw.ok hy) (Pw.cd (Pw.cd (Pw.ok hy) (pm I c B y hB hy)) (Pw.cd (Pw.ok hy) (pm I c B y hB hy)))))
 . cases o with
   |go s=>exact fun z e=>by cases e
   |brk s=>exact Tw.ok
   |ret q=>exact Tw.ok
 . cases o with
   |go s=>cases e
   |brk s=>cases e
   |ret q=>exact Pw.ok ⟨e,rfl⟩
 . cases o with
   |go s=>exact fun z e=>by cases e
   |brk s=>exact Pw.ok ho.same
   |ret q=>exact Pw.ok ho
open Cy
variable{I:List Int}{c:P2}{B:Int}{r:Z1}{n:Nat}{J:List Int}{d N:Int}
theorem Tw.cdt{Z:Type}[Cy Z]{b:Bool}{x y x' y':Option Z}(h:b=true->Tw J d N B x x')(k:b=false->Tw J d N B y y'):Tw J d N B (bif b then x else y) (bif b then x' else y'):=by
 cases b with
 |true=>exact h rfl
 |false=>exact k rfl
theorem Tw.b1{Z X:Type}[Cy Z][Cy X]{m m':Option X}{f:X->Option Z}(h:Tw J d N (B-1) m m')(hm:Pm I c (B-1) m)(hB:B+d<=1000000000)(hd:0<=d)(k:∀x,M I c (B-1) (stq x)->Tw J d N B (f x) (f (g J d x)))(ks:Sp f)(kl:∀I c B x,B<=1000000000->M I c (B-1) (stq x)->Pm I c B (f x)):Tw J d N B (m.bind f) (m'.bind f):=by
 intro z e;cases hx:m with
 |none=>rw[hx]at e;cases e
 |some x=>
  rw[hx]at e;have e:f x=some z:=e;have hM:=hm x hx
  rcases h x hx with h|h|⟨h0,h1,h2,h3⟩
  . rw[h];exact k x hM z e
  . refine .inr (.inl ?_);have:=(kl I {(stq x).out with Out:=[]} B x (by omega) ⟨hM.j,hM.f,hM.i,hM.b,hM.l,List.nil_prefix,qC _⟩ z e).n
    dsimp only at this
    omega
  . obtain⟨q1,q2⟩:=ks x h1 z e;exact .inr (.inr ⟨h0,q1,by rw[q2];exact h2,by rw[q2];exact Pw.bd h3 fun x' hx'=>kl _ _ (B+d) x' hB (by rw[show B+d-1=B-1+d by omega];exact hx')⟩)
theorem tell_t(h:M I c (B-1) r)(hB:B+d<=1000000000)(hd:0<=d)(hJ:Agr I J N)(t:Y6)(l:List Y1):Tw J d N B ((V4 r t l).bind fun y12=>(U6 y12.2.2 y12.2.1).bind fun y13=>some (y12.1,y13.1,y13.2)) ((V4 (fi J d r) t l).bind fun y12=>(U6 y12.2.2 y12.2.1).bind fun y13=>some (y12.1,y13.1,y13.2)):=by
 rcases told_t (J:=J) (d:=d) h.up (by omega) hJ t l with e|ov
 . exact Tw.eo e (fun w hw=>Tw.eo (Y5l w.2.2 _) fun q hq=>Tw.ok)
 . have:Pw ((V4 r t l).bind fun y12=>(U6 y12.2.2 y12.2.1).bind fun y13=>some (y12.1,y13.1,y13.2)) (fun z=>N<z.2.2.out.Ins):=by
    intro z e;cases hw:V4 r t l with
    |none=>rw[hw]at e;cases e
    |some w=>
     rw[hw]at e;have hN:=ov w hw;have hM:=X3h h (by omega) t l w hw
     have g:Pw ((U6 w.2.2 w.2.1).bind fun y13=>some (w.1,y13.1,y13.2)) (fun z=>N<z.2.2.out.Ins):=Pw.bd (Y1w (c:={w.2.2.out with Out:=[]}) (B:=B) (I:=I) ⟨hM.j,hM.f,hM.i,hM.b,hM.l,List.nil_prefix,qC _⟩ w.2.1) (fun q hq=>Pw.ok (by
      have:=hq.n
      dsimp only at this
      show N<q.2.out.Ins;omega))
     exact g z e
   exact fun z e=> .inr (.inl (this z e))
theorem term_t(hd:0<=d)(h:T7 J d N n):∀I c B r t,B+d<=1000000000->Agr I J N->M I c B r->Tw J d N B (B0 (D7 n) r t) (B0 (D7 n) (fi J d r) t):=by
 intro I c B r t hB hJ hr
 rcases X3n (J:=J) hr hB hd with e|⟨h0,x,ex,e16,eo,ei⟩
 . unfold B0
   dsimp only[jn]
   refine Tw.eq e (fun y hy=>Tw.cdt (fun _=>Tw.ok) fun hq=>?_);have h1:=(Z8h hr (by omega) y hy).2 (by simpa using hq);have hB1:B-1+d<=1000000000:=by omega
   have p:=Q7t n;refine Tw.cd (Tw.cd (Tw.sk fun _=>Tw.ok) (Tw.sk fun _=>Tw.ok)) (Tw.cd (Tw.cd ?_ ?_) (Tw.cd ?_ ?_))
   all_goals first
    |exact Tw.sk fun u=>Tw.b1 (h.asked I c (B-1) _ u hB1 hJ h1) (p.asked I c (B-1) _ u (by omega) h1) hB hd (fun z hz=>Tw.cd (Tw.sk fun u=>Tw.b1 (h.asked I c (B-1) _ u hB1 hJ hz) (p.asked I c (B-1) _ u (by omega) hz) hB hd (fun w hw=>Tw.sk fun _=>Tw.ok) (fun x e=>Pw.sk fun _=>Pw.ok ⟨e,rfl⟩) (fun I c B w hB hw=>Pw.sk fun _=>Pw.ok hw.up)) (Tw.sk fun _=>Tw.ok)) (fun x e=>by
      have e4:x.2.1=false:=e;refine(?_:Pw (bif (x.2.1&&_)then _ else _) _);rw[e4];exact Pw.sk fun _=>Pw.ok ⟨rfl,rfl⟩) (fun I c B z hB hz=>Pw.cd (Pw.sk fun _=>Pw.bd (p.asked I c (B-1) _ _ (by omega) hz) fun w hw=>Pw.sk fun _=>Pw.ok hw.up) (Pw.sk fun _=>Pw.ok hz.up))
    |exact Tw.cd (Tw.sk fun u=>Tw.b1 (h.asked I c (B-1) _ u hB1 hJ h1) (p.asked I c (B-1) _ u (by omega) h1) hB hd (fun z hz=>Tw.cd Tw.ok (Tw.cd (Tw.sk fun u=>Tw.b1 (h.term I c (B-1) _ u hB1 hJ hz) (p.term I c (B-1) _ u (by omega) hz) hB hd (fun w hw=>Tw.ok) (fun x e=>Pw.ok ⟨e,rfl⟩) (fun I c B w hB hw=>Pw.ok hw.up)) (Tw.sk fun u=>Tw.b1 (h.term I c (B-1) _ u hB1 hJ hz) (p.term I c (B-1) _ u (by omega) hz) hB hd (fun w hw=>Tw.ok) (fun x e=>Pw.ok ⟨e,rfl⟩) (fun I c B w hB hw=>Pw.ok hw.up)))) (fun x e=>Pw.cf (ngq e) (Pw.ok ⟨rfl,rfl⟩)) (fun I c B z hB hz=>Pw.cd (Pw.ok hz.up) (Pw.cd (Pw.sk fun _=>Pw.bd (p.term I c (B-1) _ _ (by omega) hz) fun w hw=>Pw.ok hw.up) (Pw.sk fun _=>Pw.bd (p.term I c (B-1) _ _ (by omega) hz) fun w hw=>Pw.ok hw.up))))
      (Tw.b1 (h.terms I c (B-1) _ _ hB1 hJ h1) (p.terms I c (B-1) _ _ (by omega) h1) hB hd (fun z hz=>Tw.cd Tw.ok (Tw.cd (Tw.b1 (h.call I c (B-1) _ _ _ _ hB1 hJ hz) (p.call I c (B-1) _ _ _ _ (by omega) hz) hB hd (fun w hw=>Tw.ok) (fun x e=>Pw.ok ⟨e,rfl⟩) (fun I c B w hB hw=>Pw.ok hw.up)) (tell_t hz hB hd hJ t _))) (fun x e=>Pw.cf (ngq e) (Pw.ok ⟨rfl,rfl⟩)) (fun I c B z hB hz=>Pw.cd (Pw.ok hz.up) (Pw.cd (Pw.bd (p.call I c (B-1) _ _ _ _ (by omega) hz) fun w hw=>Pw.ok hw.up) (Pw.bd (X3h hz hB _ _) fun w hw=>Pw.bd (Y1w hw _) fun q hq=>Pw.ok hq))))
 . intro z ez;unfold B0 at ez;rw[ex]at ez;have ez:some ((⟨0,(⟨0,0,0,0⟩:X9),false⟩:Y1),false,x)=some z:=ez;cases ez;exact .inr (.inr ⟨h0,rfl,e16,term_m (Q7t n) J x.out (B+d) (fi J d r) t hB (hr.other hd eo ei)⟩)
theorem rdT7(hd:0<=d):∀n,T7 J d N n
 |0=>by constructor<;>(intros;intro z e;cases e)
 |n+1=>⟨terms_t hd (rdT7 hd n),term_t hd (rdT7 hd n),asked_t hd (rdT7 hd n),loop_t hd (rdT7 hd n),choose_t hd (rdT7 hd n),act_t hd (rdT7 hd n),acts_t hd (rdT7 hd n),call_t hd (rdT7 hd n)⟩
open Cy
variable{I:List Int}{c:P2}{B:Int}{r:Z1}{J:List Int}{d N:Int}
theorem X4t(h:M I c B r):Pw (F2 r) (fun z=>M I c B z.2):=by
 unfold F2
 dsimp only[jn]
 exact Pw.lp (fun s=>M I c B s.2.1) h (fun s hs=>Pw.cd (Pw.sk fun _=>Pw.sk fun y=>Pw.bd (Y1w (r:={s.2.1 with mem:=y.2.2}) hs.same _) fun x hx=>Pw.cd (Pw.ok (Pw.ok hx)) (Pw.sk fun _=>Pw.sk fun q=>Pw.bd (Y1w (r:={x.2 with mem:=q.2}) hx.same _) fun w hw=>Pw.cd (Pw.ok (Pw.ok hw)) (Pw.ok hw))) (Pw.ok (Pw.ok hs.same)))
theorem X4w(u:Q6a){f:Int}{o o':P2}(hf:0<=f)(hfd:f+d<=10000000)(hd:0<=d)(hJ:Agr I J N)(e:C8 u I f=some o)(e':C8 u J (f+d)=some o'):o'=o\/N<o.Ins\/(0<d/\o.E=16/\o.Out<+:o'.Out/\o.Ins<=o'.Ins):=by
 have e1:min (max f 0) 10000000=f:=by omega
 have e2:min (max (f+d) 0) 10000000=f+d:=by omega
 have hM:M I ⟨[],0,0,0⟩ 10000000 (r0 u I f):=⟨rfl,by show 0<=min (max f 0) 10000000;omega,qC _,by show(0:Int)+min (max f 0) 10000000<=_;omega,by show((0:Nat):Int)+min (max f 0) 10000000<=_;omega,jJ _,qC _⟩
 have hfi:fi J d (r0 u I f)=r0 u J (f+d):=by
  unfold fi r0;rw[e1,e2]
 have hb:=begin_e (J:=J) (d:=d) (r0 u I f);rw[hfi]at hb;unfold C8 at e e'
 dsimp only[jn]at e e'
 have e:(F2 (r0 u I f)).bind _=some o:=e;have e':(F2 (r0 u J (f+d))).bind _=some o':=e';rw[hb]at e';cases hy:F2 (r0 u I f)with
 |none=>rw[hy]at e;cases e
 |some y=>
  rw[hy]at e e';have hMy:=X4t hM y hy;have e:(bif !y.1 then some ({y.2.out with Out:=[]}:P2)else _)=some o:=e;have e':(bif !y.1 then some ({y.2.out with Out:=[]}:P2)else _)=some o':=e';cases hq:y.1 with
  |false=>
   rw[hq,c1 (b:=!false) rfl]at e e';cases e;cases e';exact .inl rfl
  |true=>
   rw[hq,c0 (b:=!true) rfl]at e e';have hM2:M I ⟨[],0,0,0⟩ 10000000 {y.2 with vars:=[]}:=M.same hMy;have ht:=(rdT7 (J:=J) (N:=N) hd NN).call I ⟨[],0,0,0⟩ 10000000 {y.2 with vars:=[]} u.Main [] false (by omega) hJ hM2;have e:(K5 {y.2 with vars:=[]} u.Main [] false).bind _=some o:=e;have e':(K5 (fi J d {y.2 with vars:=[]}) u.Main [] false).bind _=some o':=e';cases hz:K5 {y.2 with vars:=[]} u.Main [] false with
   |none=>rw[hz]at e;cases e
   |some z=>
    rw[hz]at e
    rcases ht z hz with h|h|⟨h0,h1,h2,h3⟩
    . have h:K5 (fi J d {y.2 with vars:=[]}) u.Main [] false=some (fi3 J d z):=h;rw[h]at e'
      left
      have e:(bif z.2.1 then some ({z.2.2.out with Exit:=bits .and .u32 z.1.Num 255}:P2)else some z.2.2.out)=some o:=e;have e':(bif z.2.1 then some ({z.2.2.out with Exit:=bits .and .u32 z.1.Num 255}:P2)else some z.2.2.out)=some o':=e';rw[e]at e';exact(Option.some.inj e').symm
    . refine .inr (.inl ?_);have h:N<z.2.2.out.Ins:=h;have e:(bif z.2.1 then some ({z.2.2.out with Exit:=bits .and .u32 z.1.Num 255}:P2)else some z.2.2.out)=some o:=e;cases hc:z.2.1<;>rw[hc]at e<;>cases e<;>exact h
    . refine .inr (.inr ⟨h0,?_⟩);have h1:z.2.1=false:=h1;have e:(bif z.2.1 then some ({z.2.2.out with Exit:=bits .and .u32 z.1.Num 255}:P2)else some z.2.2.out)=some o:=e;rw[h1]at e;cases e;refine⟨h2,?_⟩;cases hz':K5 (fi J d {y.2 with vars:=[]}) u.Main [] false with
      |none=>rw[hz']at e';cases e'
      |some z'=>
       rw[hz']at e';have hM':=h3 z' hz';have e':(bif z'.2.1 then some ({z'.2.2.out with Exit:=bits .and .u32 z'.1.Num 255}:P2)else some z'.2.2.out)=some o':=e';cases hc:z'.2.1<;>rw[hc]at e'<;>cases e'<;>exact⟨hM'.o,hM'.n⟩
theorem X1b(u:Q6a){f:Int}:Pw (C8 u I f) (fun o=>o.Out.length<=10000000/\o.Ins<=10000000):=by
 have hM:M I ⟨[],0,0,0⟩ 10000000 (r0 u I f):=⟨rfl,by show 0<=min (max f 0) 10000000;omega,qC _,by show(0:Int)+min (max f 0) 10000000<=_;omega,by show((0:Nat):Int)+min (max f 0) 10000000<=_;omega,jJ _,qC _⟩;unfold C8
 dsimp only[jn]
 refine Pw.sk fun y1=>?_;refine(?_:Pw ((F2 ⟨u,y1,I,⟨[],0,0,0⟩,min (max f 0) 10000000,0,[],⟨0,⟨0,0,0,0⟩,false⟩⟩).bind _) _);refine Pw.bd (X4t (c:=⟨[],0,0,0⟩) (B:=10000000) (I:=I) (M.same hM)) fun y hy=>Pw.cd (Pw.ok ⟨kX _,by have h1:=hy.b;have h2:=hy.f;dsimp only;omega⟩) (Pw.bd ((Q7t NN).call I ⟨[],0,0,0⟩ 10000000 {y.2 with vars:=[]} u.Main [] false (by omega) (M.same hy)) fun z hz=>?_);have h1:=hz.l;have h2:=hz.f;have h3:=hz.b;exact Pw.cd (Pw.ok ⟨by dsimp only;omega,by dsimp only;omega⟩) (Pw.ok ⟨by omega,by omega⟩)
theorem Y9q{p q:List Int}(h:p<+:q)(hl:q.length<=100000000):Z1l p q=some true:=by
 have hle:=h.length_le;unfold Z1l;rw[c0 (df (by omega))]
 obtain⟨o,ho,hp⟩:=L5 (body:=fun(x1:Int)=>(bif decide (x1<(qQ p:Int))then((idx p x1).bind fun u1=>(idx q x1).bind fun u2=>bif u1 !=u2 then(some (Lp.ret false))else(some (Lp.go (qJ .i64 (x1+1)))))else(some (Lp.brk x1)):Option (Lp (Int) (Bool)))) (n:=NN) (s:=0) (fun x=>0<=x) (fun x=>p.length-x.toNat) (fun o=>∃x,o= .brk x) (qC 0) (Q6f (by omega)) (by
  intro x hx
  by_cases hk:x<(p.length:Int)
  . rw[c1 (dt hk)];obtain⟨a,ea,_⟩:=J2 (l:=p) (n:=x) ⟨hx,hk⟩
    have eq:idx q x=some a:=by
     obtain⟨t,rfl⟩:=h;unfold idx at ea⊢;rw[if_pos hx]at ea⊢;rw[kR (by omega)];exact ea
    rw[ea,qV,eq,qV,c0 (by simp)];exact⟨_,rfl,by show 0<=qJ .i64 (x+1);rw[w64 (by omega)];omega,by show p.length-(qJ .i64 (x+1)).toNat<_;rw[w64 (by omega)];omega⟩
  . rw[c0 (df hk)];exact⟨_,rfl,_,rfl⟩)
 obtain⟨x,rfl⟩:=hp;rw[ho]
 rfl
theorem X1a(o:P2)(hl:o.Out.length<=100000000):Q9i o o=some true:=by
 unfold Q9i;rw[c1 (by simp),Y9q (jJ _) hl,qV]
 simp
theorem Y8e(p:Z3l)(hi:∀x∈p.Inputs,U32 x):Q8l p=some true:=by
 obtain⟨u,b,eu,hu⟩:=X2y p.S;unfold Q8l
 dsimp only[jn]
 rw[eu,qV,X2w];cases hc:(((((!b||decide (40<(p.Inputs.length:Int)))||decide (p.N<0))||decide (p.More<0))||decide (20000<p.N))||decide (20000<p.More))with
 |true=>rfl
 |false=>
  rw[c0 (b:=false) rfl]
  simp only[Bool.or_eq_false_iff,Bool.not_eq_false',decide_eq_false_iff_not]at hc
  obtain⟨⟨⟨⟨⟨hb,hl⟩,h1⟩,h2⟩,h3⟩,h4⟩:=hc;obtain⟨X,hX⟩:=hu hb;obtain⟨o,eo,o1,o2,o3⟩:=Y6p hX hi p.N;rw[w64 (by omega)];obtain⟨o',eo',q1,q2,q3⟩:=Y6p hX hi (p.N+p.More);have hl1:=X1b u o eo;have hl2:=X1b u o' eo';rw[eo,qV,eo',qV];have key:=X4w (I:=p.Inputs) (J:=p.Inputs) (N:=10000000) u (by omega) (by omega) (by omega) (fun _ _ _=>rfl) eo eo'
  have hw:o.Out<+:o'.Out/\o.Ins<=o'.Ins/\(o.E≠16->o'=o):=by
   rcases key with h|h|h
   . rw[h];exact⟨jJ _,qC _,fun _=>rfl⟩
   . exact absurd hl1.2 (by omega)
   . exact⟨h.2.2.1,h.2.2.2,fun e=>absurd h.2.1 e⟩
  by_cases he:o.E=16
  . have hx:o.Exit=0:=o2.resolve_left (by omega);rw[c0 (by rw[he];rfl),qV,c1 (by rw[hx];rfl),Y9q hw.1 (by omega),qV,dt hw.2.1]
    rfl
  . rw[c1 (by simpa using he),hw.2.2 he,qV,c1 rfl,X1a o (by omega)]
    rfl
end
end Go.Proofs.YtbfpdnogfkbiaaaGreat
