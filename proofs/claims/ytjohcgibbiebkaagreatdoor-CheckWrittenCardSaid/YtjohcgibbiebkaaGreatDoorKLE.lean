/- Lemmas that hold for every program. -/
import Derived.Test.YtjohcgibbiebkaaGreatDoorKLC
import Derived.KernelRfl
set_option linter.unusedVariables false
namespace Go.Proofs.YtjohcgibbiebkaaGreatDoor
open List renaming length → qQ, length_append → qW, length_cons → qY, mem_cons → qZ, mem_append → jQ, append_assoc → qS, mem_singleton → kQ, replicate → kZ, getElem?_append_left → kR, getElem?_append_right → kS, append_nil → jK, cons_append → jX, nil_append → jV, length_nil → jF, getElem_mem → jT, map_append → jC
open IntKind renaming wrap → qJ
open Except renaming error → qK, ok → qX
open Option renaming bind_some → qV
open Nat renaming zero_le → kX
def Hc{Z:Type}(m:Option Z)(Q:Z->Prop):Prop:=∀z,m=some z->Q z
def Oe{E A:Type}(P:A->Prop):Except E A->Prop
 | .ok x=>P x
 | .error _=>True
def Nxt{S R:Type}(G:S->Prop)(F:Lp S R->Prop):Lp S R->Prop
 | .go s=>G s
 | .brk s=>F (.brk s)
 | .ret r=>F (.ret r)
section
variable{Z B E A S R:Type}{Q:Z->Prop}
theorem Hc.ok{z:Z}(h:Q z):Hc (some z) Q:=fun y e=>by cases e;exact h
theorem Hc.no:Hc (none:Option Z) Q:=fun y e=>by cases e
theorem Hc.mp{m:Option Z}{P:Z->Prop}(h:Hc m P)(k:∀x,P x->Q x):Hc m Q:=fun z e=>k z (h z e)
theorem Hc.st{m:Option B}{x:B}{f:B->Option Z}(h:m=some x)(k:Hc (f x) Q):Hc (m.bind f) Q:=by subst h;exact k
theorem Hc.bd{m:Option B}{f:B->Option Z}{T:B->Prop}(h:Hc m T)(k:∀x,T x->Hc (f x) Q):Hc (m.bind f) Q:=by
 cases hm:m with
 |none=>exact .no
 |some x=>exact k x (h x hm)
theorem Hc.sk{m:Option B}{f:B->Option Z}(k:∀x,Hc (f x) Q):Hc (m.bind f) Q:=Hc.bd (T:=fun _=>True) (fun _ _=>trivial) fun x _=>k x
theorem Hc.bx{m:Option (Except E A)}{f:A->Option Z}{g:E->Option Z}{T:A->Prop}(h:Hc m (Oe T))(k:∀x,T x->Hc (f x) Q)(e:∀x,Hc (g x) Q:=by exact fun _=>Hc.ok trivial):Hc (m.bind fun y=>exC y f g) Q:=by
 cases hm:m with
 |none=>exact .no
 |some x=>
  cases x with
  |error x=>exact e x
  |ok x=>exact k x (h _ hm)
theorem Hc.oe{m:Option (Except E A)}{P T:A->Prop}(h:Hc m (Oe P))(k:∀x,P x->T x):Hc m (Oe T):=h.mp fun x=>match x with
 | .ok x=>k x
 | .error _=>fun _=>trivial
theorem Hc.lp{body:S->Option (Lp S R)}{K:Lp S R->Option Z}(I:S->Prop)(hs:∀s,I s->Hc (body s) (Nxt I fun o=>Hc (K o) Q)):∀(n:Nat)(s:S),I s->Hc ((loopM body n s).bind K) Q
 |0,_,_=> .no
 |n+1,s,hi=>by
  unfold loopM
  cases hb:body s with
  |none=>exact .no
  |some o=>
   have:=hs s hi _ hb
   cases o with
   |go s'=>exact Hc.lp I hs n s' this
   |brk s'=>exact this
   |ret r=>exact this
theorem X5u{body:S->Option (Lp S R)}{o:Lp S R}:∀(n:Nat)(s:S),loopM body n s=some o->loopM body (n+1) s=some o
 |0,_,h=>by cases h
 |n+1,s,h=>by
  unfold loopM at h⊢
  cases hb:body s with
  |none=>rw[hb]at h;cases h
  |some x=>
   rw[hb]at h
   cases x with
   |go s'=>exact X5u n s' h
   |brk s'=>exact h
   |ret r=>exact h
theorem Hc.l1{body:S->Option (Lp S R)}{K:Lp S R->Option Z}{n:Nat}{s:S}(hs:Hc (body s) (Nxt (fun s'=>Hc ((loopM body n s').bind K) Q) fun o=>Hc (K o) Q)):Hc ((loopM body n s).bind K) Q:=by
 cases n with
 |zero=>exact .no
 |succ n=>
  intro z hz;unfold loopM at hz;cases hb:body s with
  |none=>rw[hb]at hz;cases hz
  |some o=>
   rw[hb]at hz;have:=hs _ hb;cases o with
   |go s'=>
    dsimp only at hz
    cases hl:loopM body n s' with
    |none=>rw[hl]at hz;cases hz
    |some x=>rw[hl]at hz;exact this z (by rw[X5u n s' hl];exact hz)
   |brk s'=>exact this z hz
   |ret r=>exact this z hz
theorem Hc.j1{f:(A->Option Z)->Option Z}{k:A->Option Z}(P:A->Prop)(hk:∀x,P x->Hc (k x) Q)(hf:∀c:A->Option Z,(∀x,P x->Hc (c x) Q)->Hc (f c) Q):Hc (jn f k) Q:=hf k hk
theorem Hc.j2{f:(A->B->Option Z)->Option Z}{k:A->B->Option Z}(P:A->B->Prop)(hk:∀x y,P x y->Hc (k x y) Q)(hf:∀c:A->B->Option Z,(∀x y,P x y->Hc (c x y) Q)->Hc (f c) Q):Hc (jn f k) Q:=hf k hk
end
structure Tx(s:Aa)(k n:Int):Prop where
 len:s.length<=100
 ne:s≠[]
 bl:∀r,Sepr r->blS (s++r)=0
 lx:∀r,Sepr r->(s++r).length<=100000->Q0r (s++r)=some (⟨k,s,n,Z7u⟩,0)
structure Kt(t:Y8)(s:Aa):Prop where
 tx:t.Text=s
 kn:∃k n,Tx s k n/\t.Kind=k/\t.Num=n
theorem Tx.one{s:Aa}{k n:Int}(h:Tx s k n):Q0r s=some (⟨k,s,n,Z7u⟩,0):=by
 have:=h.lx [] (fun c hc=>by cases hc) (by have:=h.len;simp;omega)
 rwa[jK]at this
theorem Kt.at{t:Y8}{s:Aa}{k n:Int}(h:Kt t s)(c:Tx s k n):t.Kind=k/\t.Num=n:=by
 obtain⟨k',n',h1,h2,h3⟩:=h.kn;have:=h1.one.symm.trans c.one
 simp only[Option.some.injEq,Prod.mk.injEq,Y8.mk.injEq,and_true,true_and]at this
 exact⟨h2.trans this.1,h3.trans this.2⟩
theorem X6j:∀w∈Z0e,w.length<=31/\w≠[]/\(∀c∈w,O0 c=true)/\Y3d ((w.headD 0).toNat:Int)=true/\Y5k w=true:=by decide+kernel
theorem X2g:Sepr []:=fun c hc=>by cases hc
theorem Y7n{c:UInt8}(h:O0 c=true):blB c=false/\c≠47:=by
 refine⟨?_,?_⟩
 . cases hb:blB c with
   |false=>rfl
   |true=>rw[Y1j hb]at h;cases h
 . rintro rfl
   revert h;decide
theorem X6f{c:UInt8}{l:Aa}(h:blB c=false)(h2:c≠47):blS (c::l)=0:=by
 unfold blS;have h3:¬([47,47]:Aa)<+:c::l:=fun e=>h2 (List.cons_prefix_cons.1 e).1.symm;have h4:¬([47,42]:Aa)<+:c::l:=fun e=>h2 (List.cons_prefix_cons.1 e).1.symm;rw[if_neg h3,if_neg h4];unfold sp;rw[if_neg (by rw[h];simp)]
 rfl
theorem X5e{s:Aa}(hl:s.length<=31)(hn:s≠[])(hm:∀c∈s,O0 c=true)(h1:Y3d ((s.headD 0).toNat:Int)=true):Tx s (bif Y5k s then 2 else 1) 0:=by
 obtain⟨c,l,rfl⟩:∃c l,s=c::l:=by
  cases s with
  |nil=>exact absurd rfl hn
  |cons c l=>exact⟨c,l,rfl⟩
 refine⟨by omega,hn,fun r _=>X6f (Y7n (hm c (by simp))).1 (Y7n (hm c (by simp))).2,fun r hr hlen=>?_⟩;have hs:=Z5p hm hr;unfold Q0r;rw[show idx (c::l++r) 0=some c from rfl,qV,Z4n,qV];rw[c1 (show Y3d (c.toNat:Int)=true from h1),Y0c _ (by omega),qV,hs,Z3h (by simp only[qW];omega),qV,List.take_left,c0 (df (by omega)),Y6r];cases Y5k (c::l)<;>rfl
theorem kw{s:Aa}(h:s∈Z0e):Tx s 2 0:=by
 obtain⟨a,b,c,d,e⟩:=X6j s h;have:=X5e a b c d
 rwa[e]at this
theorem X4m:∀m∈Q0f,Z0h m=m/\m.length<=3/\(¬([47,47]:Aa)<+:m/\¬([47,42]:Aa)<+:m/\blB (m.headD 0)=false)/\Y3d ((m.headD 0).toNat:Int)=false/\Y3f ((m.headD 0).toNat:Int)=false/\((m.headD 0).toNat:Int)≠39:=by decide+kernel
theorem km{s:Aa}(h:s∈Q0f):Tx s 4 0:=by
 obtain⟨h1,h2,h3,h4,h5,h6⟩:=X4m s h;have hn:=(Y7p s h).1
 obtain⟨c,l,rfl⟩:∃c l,s=c::l:=by
  cases s with
  |nil=>exact absurd rfl hn
  |cons c l=>exact⟨c,l,rfl⟩
 refine⟨by omega,hn,fun r hr=>?_,fun r hr hlen=>?_⟩
 . have pre:∀z:UInt8,blB z=false->([47,z]:Aa)<+:c::l++r->([47,z]:Aa)<+:c::l:=fun z hz=>X5p (by simp only[qZ,List.not_mem_nil,or_false,forall_eq_or_imp,forall_eq];exact⟨rfl,hz⟩) hr;unfold blS;rw[if_neg fun e=>h3.1 (pre 47 rfl e),if_neg fun e=>h3.2.1 (pre 42 rfl e)];show((sp blB (c::(l++r)):Nat):Int)=0;unfold sp;rw[if_neg (by rw[show blB c=false from h3.2.2];simp)]
   rfl
 have hm:=(Y9k (c::l) (by rw[h1];exact hn)).2.2 r hr;rw[h1]at hm;unfold Q0r;rw[show idx (c::l++r) 0=some c from rfl]
 simp only[qV]
 rw[Z4n,qV,c0 (show Y3d (c.toNat:Int)=false from h4),Z5g,qV,c0 (show Y3f (c.toNat:Int)=false from h5),c0 (show((c.toNat:Int)==39)=false from beq_eq_false_iff_ne.2 h6),Y6n,qV,hm,c0 (df hn)]
 rfl
def Nm(s:Aa):Prop:=Tx s 1 0
inductive TL:List Y8->List (Aa)->List Y8->Prop
 |nil {l:List Y8}:TL l [] l
 |cons {t:Y8} {s:Aa} {l l':List Y8} {ts:List (Aa)} (h:Kt t s) (k:TL l ts l'):TL (t::l) (s::ts) l'
theorem TL.app{ts us:List (Aa)}:∀{l l':List Y8},TL l (ts++us) l'->∃m,TL l ts m/\TL m us l':=by
 induction ts with
 |nil=>exact fun h=>⟨_,.nil,h⟩
 |cons s ts ih=>
  intro l l' h;cases h with
  |cons h k=>
   obtain⟨m,h1,h2⟩:=ih k;exact⟨m,.cons h h1,h2⟩
theorem TL.one{l l':List Y8}{s:Aa}{ts:List (Aa)}(h:TL l (s::ts) l'):∃t k,l=t::k/\Kt t s/\TL k ts l':=by
 cases h with
 |cons h k=>exact⟨_,_,rfl,h,k⟩
theorem TL.emp{l l':List Y8}(h:TL l [] l'):l=l':=by cases h;rfl
theorem w64m(n:Int):qJ .u64 n=n%18446744073709551616:=by simp[qJ,IntKind.bits,IntKind.signed]
theorem w8m(n:Int):qJ .u8 n=n%256:=by simp[qJ,IntKind.bits,IntKind.signed]
theorem w32m(n:Int):qJ .u32 n=n%4294967296:=by simp[qJ,IntKind.bits,IntKind.signed]
theorem X6c(u:Nat)(h:u<18446744073709551616):(Lib.decDigits u).length<=20:=by
 rw[Lib.decDigits_length]
 by_cases h1:1<=u
 . have:=Lib.numDigits_eq u h1 h
   split at this<;>omega
 . obtain rfl:u=0:=by omega
   rw[Lib.nDigits]
   simp
theorem dg_nat(u j:Nat):(Lib.dg u j).toNat=48+u/10^j%10:=by
 unfold Lib.dg;rw[UInt8.toNat_ofNat'];omega
theorem dec_mem{u:Nat}:∀c∈Lib.decDigits u,48<=c.toNat/\c.toNat<=57:=by
 intro c hc;rw[Lib.decDigits_eq]at hc;obtain⟨t,_,rfl⟩:=List.mem_map.1 hc;rw[dg_nat];omega
theorem dec_get{u k:Nat}(h:k<Lib.nDigits u):(N0 (Lib.decDigits u))[k]'(by simp only[N0,List.length_map,Lib.decDigits_length];exact h)=((48+u/10^(Lib.nDigits u-1-k)%10:Nat):Int):=by
 unfold N0;rw[List.getElem_map]
 congr 1
 simp only[Lib.decDigits_eq,List.getElem_map,List.getElem_range]
 exact dg_nat _ _
theorem X6i{d:Nat}(h:d<10):Q5k ((48+d:Nat):Int)=some (d:Int):=by
 unfold Q5k
 have hd:Y3f ((48+d:Nat):Int)=true:=by
  unfold Y3f;rw[dt (by omega),dt (by omega)]
  rfl
 rw[Z5g,qV,c1 hd,w8m,w64m]
 congr 1
 omega
theorem numK_dec{u:Nat}(h:u<4294967296)(s:Aa):numK s (Lib.decDigits u) 10=some (⟨3,s,(u:Int),Z7u⟩,0):=by
 have hl:=Lib.decDigits_length u;have hp:=Lib.nDigits_pos u;have h20:=X6c u (by omega);unfold numK;rw[c0 (df (fun e=>by rw[e]at hl;simp at hl;omega)),M9 (by omega),qV];have hsl:(N0 (Lib.decDigits u)).length=Lib.nDigits u:=by simp[N0,hl]
 refine run_bind (fun k=>(((u/10^(Lib.nDigits u-k):Nat):Int),false,((k:Nat):Int))) (Lib.nDigits u) (.brk (((u/10^(Lib.nDigits u-Lib.nDigits u):Nat):Int),false,((Lib.nDigits u:Nat):Int))) ?_ (by omega) (fun k hk=>?_) ?_ trivial ?_
 . have:=Lib.lt_pow_nDigits u;rw[Nat.sub_zero,Nat.div_eq_of_lt this]
   rfl
 . dsimp only
   rw[hsl,c1 (dt (by omega))]
   simp only[jn]
   rw[E8 (by rw[hsl];exact hk),qV,dec_get hk,X6i (Nat.mod_lt _ (by decide)),qV,qV]
   have e:u/10^(Lib.nDigits u-k)=u/10^(Lib.nDigits u-1-k)/10:=by
    rw[show Lib.nDigits u-k=(Lib.nDigits u-1-k)+1 by omega,Nat.pow_succ,Nat.div_div_eq_div_mul]
   have b:u/10^(Lib.nDigits u-1-k)<=u:=Nat.div_le_self _ _
   have e2:u/10^(Lib.nDigits u-(k+1))=u/10^(Lib.nDigits u-1-k):=by
    rw[show Lib.nDigits u-(k+1)=Lib.nDigits u-1-k by omega]
   rw[e,e2]
   generalize u/10^(Lib.nDigits u-1-k)=v at b
   have hw:qJ .u64 (qJ .u64 (((v/10:Nat):Int)*10)+((v%10:Nat):Int))=(v:Int):=by
    rw[w64m,w64m];omega
   rw[c0 (df (by omega)),hw,c0 (df (by omega)),w64 (by omega)]
   rfl
 . dsimp only
   rw[hsl,c0 (df (by omega))]
 . dsimp only[Lp.thn]
   rw[Nat.sub_self,Nat.pow_zero,Nat.div_one,Aj,w32m]
   congr 3
   omega
theorem tx_num{u:Nat}(h:u<4294967296):Tx (Lib.decDigits u) 3 (u:Int):=by
 have hl:=Lib.decDigits_length u;have hp:=Lib.nDigits_pos u;have h20:=X6c u (by omega);have hm:=dec_mem (u:=u)
 have hmore:∀c∈Lib.decDigits u,O0 c=true:=fun c hc=>by
  have:=hm c hc;unfold O0 Y3f;rw[dt (by omega),dt (by omega)]
  simp
 cases hd:Lib.decDigits u with
 |nil=>rw[hd]at hl;simp at hl;omega
 |cons c l=>
  have hc:=hm c (by rw[hd];simp);have hb:=Y7n (hmore c (by rw[hd];simp))
  have hlet:Y3d (c.toNat:Int)=false:=by
   unfold Y3d;rw[df (show¬(97:Int)<=c.toNat by omega),df (show¬(65:Int)<=c.toNat by omega),beq_eq_false_iff_ne.2 (by omega)]
   rfl
  have hdig:Y3f (c.toNat:Int)=true:=by
   unfold Y3f;rw[dt (by omega),dt (by omega)]
   rfl
  refine⟨by rw[<-hd];omega,by simp,fun r _=>X6f hb.1 hb.2,fun r hr hlen=>?_⟩;have hs:sp O0 (c::l++r)=(c::l).length:=by rw[<-hd];exact Z5p hmore hr
  have hn:numT (c::l)=some (⟨3,c::l,(u:Int),Z7u⟩,0):=by
   have no:∀z:UInt8,57<z.toNat->¬([48,z]:Aa)<+:c::l:=fun z hz e=>by
    have:=hm z (by rw[hd];exact e.subset (by simp));omega
   unfold numT
   simp only[jn]
   rw[Y7v,qV,df (no 120 (by decide)),Aj,Y7v,qV,df (no 88 (by decide)),Aj];have:=numK_dec h (c::l)
   rwa[hd]at this
  unfold Q0r;rw[show idx (c::l++r) 0=some c from rfl]
  simp only[qV]
  rw[Z4n,qV,c0 hlet,Z5g,qV,c1 hdig,Y1p _ (by omega),hs,List.take_left,hn]
  rfl
def nu(n:Int):Aa:=Lib.decDigits n.toNat
theorem Y2j{n:Int}(h:U32 n):Tx (nu n) 3 n:=by
 have:=tx_num (u:=n.toNat) (by have:=h.2;omega)
 rwa[Int.toNat_of_nonneg h.1]at this
def Txs(ts:List (Aa)):Prop:=∀s∈ts,∃k n,Tx s k n
theorem sp_one{s:Aa}(h:blS s=0)(hn:s≠[]):sp blB s=0:=by
 unfold blS at h
 by_cases h1:([47,47]:Aa)<+:s
 . obtain⟨r,rfl⟩:=h1;rfl
 by_cases h2:([47,42]:Aa)<+:s
 . obtain⟨r,rfl⟩:=h2;rfl
 rw[if_neg h1,if_neg h2]at h;omega
theorem Kt.of{t:Y8}{s:Aa}{k n:Int}(h:Tx s k n)(e:Z4v t=⟨k,s,n,Z7u⟩):Kt t s:=by
 obtain⟨a,b,c,d⟩:=t
 simp only[Z4v,Y8.mk.injEq,and_true]at e
 obtain⟨rfl,rfl,rfl⟩:=e;exact⟨rfl,_,_,h,rfl,rfl⟩
theorem X7m{s:Aa}(h:blS s=0)(hn:s≠[]):blS (32::s)=1:=by
 unfold blS;have h1:∀z:UInt8,¬([47,z]:Aa)<+:32::s:=fun z e=>absurd (List.cons_prefix_cons.1 e).1 (by decide);rw[if_neg (h1 47),if_neg (h1 42)];unfold sp;rw[if_pos (show blB 32=true from rfl),sp_one h hn]
 rfl
theorem X0u:∀(ts:List (Aa))(k l:List Y8),Txs ts->(Lib.join ts [32]).length<=100000->Lx (Lib.join ts [32]) k->l.map Z4v=k->TL l ts []
 |[],k,l,_,_,h,e=>by
  rw[Lib.join_nil]at h
  cases h with
  |nil=>rw[List.map_eq_nil_iff.1 e];exact .nil
  |blank h=>exact absurd rfl h
  |tok h=>exact absurd rfl h
 |s::ts,k,l,ht,hlen,h,e=>by
  obtain⟨kd,n,hx⟩:=ht s (by simp)
  rw[Lib.join_cons]at h hlen
  have hj:Lib.joinTail [32] ts=[]/\ts=[]\/Lib.joinTail [32] ts=32::Lib.join ts [32]/\∃a u,ts=a::u:=by
   cases ts with
   |nil=>exact .inl ⟨rfl,rfl⟩
   |cons a ts=>rw[Lib.join_cons];exact .inr ⟨rfl,_,_,rfl⟩
  have hsep:Sepr (Lib.joinTail [32] ts):=by
   rcases hj with⟨e,_⟩|⟨e,_⟩<;>rw[e]
   . exact X2g
   . exact fun c hc=>by cases hc;rfl
  have hlx:=hx.lx _ hsep hlen;have hbl:=hx.bl _ hsep;have hne:s++Lib.joinTail [32] ts≠[]:=by simp[hx.ne]
  have hdr:(s++Lib.joinTail [32] ts).drop s.length=Lib.joinTail [32] ts:=List.drop_left
  generalize s++Lib.joinTail [32] ts=z at h hlen hlx hbl hne hdr
  cases h with
  |nil=>exact absurd rfl hne
  |blank h n hn h0 k=>rw[hbl]at hn;omega
  |@tok _ t ts' h hb ht' k'=>
   rw[hlx]at ht';cases ht';obtain⟨t,l,rfl,e1,e2⟩:=List.map_eq_cons_iff.1 e;refine .cons (Kt.of hx e1) ?_
   dsimp only at k'
   rw[hdr]at k'
   rcases hj with⟨j1,rfl⟩|⟨j1,a,u,rfl⟩
   . rw[j1]at k';exact X0u [] ts' l (fun s h=>by cases h) (by simp[Lib.join_nil]) k' e2
   . obtain⟨kd2,n2,hx2⟩:=ht a (by simp)
     have hja:blS (Lib.join (a::u) [32])=0/\Lib.join (a::u) [32]≠[]:=by
      rw[Lib.join_cons];refine⟨hx2.bl _ ?_,by simp[hx2.ne]⟩;cases u with
      |nil=>exact X2g
      |cons b u=>exact fun c hc=>by cases hc;rfl
     have h1:=X7m hja.1 hja.2
     have hl2:(Lib.join (a::u) [32]).length<=100000:=by
      have:=congrArg qQ hdr;rw[j1,List.length_drop]at this
      simp only[qY]at this
      omega
     rw[j1]at k'
     generalize hJ:Lib.join (a::u) [32]=J at k' h1 hl2
     generalize hZ:32::J=Z at k' h1
     cases k' with
     |nil=>cases hZ
     |tok h hb=>omega
     |@blank _ _ h n hn h0 k=>
      rw[h1]at hn;obtain rfl:n=1:=by omega
      subst hZ;rw[List.drop_one,List.tail_cons,<-hJ]at k;exact X0u (a::u) ts' l (fun s hs=>ht s (by simp[qZ.1 hs])) (by rw[hJ];exact hl2) k e2
abbrev T0n:K6:=⟨[],[],0⟩
def Q1z:Aa:=[115,116,114,117,99,116]
def Z3z:List (Aa):=[[105,110,116],[99,104,97,114],[118,111,105,100]]
def inW:Aa:=[105,110]
def Y9c:Aa:=[115,105,122,101,111,102]
def unaO:List (Aa):=[[45],[126],[33],[42],[38]]
def ppO:List (Aa):=[[43,43],[45,45]]
def mbO:List (Aa):=[[46],[45,62]]
def binO:List (Aa):=[[124,124],[38,38],[124],[94],[38],[61,61],[33,61],[60],[62],[60,61],[62,61],[60,60],[62,62],[43],[45],[42],[47],[37]]
def asgO:List (Aa):=[[61],[43,61],[45,61],[42,61],[47,61],[37,61],[38,61],[124,61],[94,61],[60,60,61],[62,62,61]]
inductive WT:K6->List (Aa)->Prop
 |base {w:Aa} {n:Nat} (hn:n<=1000000) (h:w∈Z3z):WT ⟨w,[],(n:Int)⟩ (w::kZ n [42])
 |strct {s:Aa} {n:Nat} (hn:n<=1000000) (h:Nm s):WT ⟨Q1z,s,(n:Int)⟩ (Q1z::s::kZ n [42])
def opd(k:Int)(ts:List (Aa)):List (Aa):=if k=1\/k=2\/k=7\/k=8\/k=9\/k=12 then ts else[40]::(ts++[[41]])
def pre:List (List (Aa))->List (List (Aa))
 |[]=>[]
 |a::r=>a::r.map fun t=>[44]::t
def sep(l:List (List (Aa))):List (Aa):=(pre l).flatten
inductive WE:Z5->List (Aa)->Prop
 |num {p:Pos} {m:Int} (h:U32 m):WE ⟨1,p,[],[],m,T0n,[]⟩ [nu m]
 |name {p:Pos} {s:Aa} (h:Nm s):WE ⟨2,p,[],s,0,T0n,[]⟩ [s]
 |una {p:Pos} {o:Aa} {x:Z5} {ts:List (Aa)} (h:o∈unaO) (k:WE x ts):WE ⟨3,p,o,[],0,T0n,[x]⟩ (o::opd x.Kind ts)
 |pp {p:Pos} {o:Aa} {x:Z5} {ts:List (Aa)} (h:o∈ppO) (k:WE x ts):WE ⟨10,p,o,[],0,T0n,[x]⟩ (o::opd x.Kind ts)
 |bin {p:Pos} {o:Aa} {x y:Z5} {ts us:List (Aa)} (h:o∈binO) (k:WE x ts) (j:WE y us):WE ⟨4,p,o,[],0,T0n,[x,y]⟩ (opd x.Kind ts++o::opd y.Kind us)
 |asg {p:Pos} {o:Aa} {x y:Z5} {ts us:List (Aa)} (h:o∈asgO) (k:WE x ts) (j:WE y us):WE ⟨5,p,o,[],0,T0n,[x,y]⟩ (opd x.Kind ts++o::opd y.Kind us)
 |cond {p:Pos} {x y z:Z5} {ts us vs:List (Aa)} (k:WE x ts) (j:WE y us) (i:WE z vs):WE ⟨6,p,[],[],0,T0n,[x,y,z]⟩ (opd x.Kind ts++[63]::(opd y.Kind us++[58]::opd z.Kind vs))
 |inp {p:Pos}:WE ⟨7,p,[],inW,0,T0n,[]⟩ [inW,[40],[41]]
 |out {p:Pos} {x:Z5} {ts:List (Aa)} (k:WE x ts):WE ⟨7,p,[],Y6b,0,T0n,[x]⟩ (Y6b::[40]::(ts++[[41]]))
 |call {p:Pos} {s:Aa} {ps:List (Z5×List (Aa))} (h:Nm s) (k:∀q∈ps,WE q.1 q.2):WE ⟨7,p,[],s,0,T0n,ps.map (·.1)⟩ (s::[40]::(sep (ps.map (·.2))++[[41]]))
 |idx {p:Pos} {x y:Z5} {ts us:List (Aa)} (k:WE x ts) (j:WE y us):WE ⟨8,p,[],[],0,T0n,[x,y]⟩ (opd x.Kind ts++[91]::(us++[[93]]))
 |mem {p:Pos} {o s:Aa} {x:Z5} {ts:List (Aa)} (h:o∈mbO) (hs:Nm s) (k:WE x ts):WE ⟨9,p,o,s,0,T0n,[x]⟩ (opd x.Kind ts++[o,s])
 |post {p:Pos} {o:Aa} {x:Z5} {ts:List (Aa)} (h:o∈ppO) (k:WE x ts):WE ⟨11,p,o,[],0,T0n,[x]⟩ (opd x.Kind ts++[o])
 |size {p:Pos} {t:K6} {ts:List (Aa)} (h:WT t ts):WE ⟨12,p,[],[],0,t,[]⟩ (Y9c::[40]::(ts++[[41]]))
def Wx(f:Z8->Option Z8)(ts:List (Aa)):Prop:=∀w,w.l.length+ts.length<=100000000->f w=some ⟨w.l++ts⟩
theorem Q7c{ts:List (Aa)}{w:Z8}(h:w.l.length+ts.length<=100000000):Y5 w ts=some ⟨w.l++ts⟩:=by
 unfold Y5;rw[M9 (by omega)]
 rfl
theorem Wx.put{ts:List (Aa)}:Wx (fun w=>Y5 w ts) ts:=fun w h=>Q7c h
theorem Wx.bd{f g:Z8->Option Z8}{a b:List (Aa)}(h:Wx f a)(k:Wx g b):Wx (fun w=>(f w).bind g) (a++b):=fun w hw=>by
 rw[qW]at hw
 dsimp only
 rw[h w (by omega),qV,k _ (by simp only[qW];omega),qS]
theorem Wx.id:Wx (fun w=>some w) []:=fun w _=>by rw[jK]
theorem Wx.cg{f:Z8->Option Z8}{a b:List (Aa)}(h:Wx f a)(e:a=b):Wx f b:=e▸h
theorem X5g{α:Type}{l:List (List α)}{k:Nat}(h:k<l.length):(l.take (k+1)).flatten=(l.take k).flatten++l[k]:=by
 rw[List.take_succ_eq_append_getElem h,List.flatten_append]
 simp
theorem fl_len{α:Type}{l:List (List α)}{k:Nat}(h:k<l.length):(l.take k).flatten.length+l[k].length<=l.flatten.length:=by
 have e:=congrArg qQ (X5g h);rw[qW]at e;rw[<-e];have:=congrArg (fun x=>(List.flatten x).length) (List.take_append_drop (k+1) l)
 simp only[List.flatten_append,qW]at this
 omega
theorem Z9v{α R Z:Type}{body:Int×Z8->Option (Lp (Int×Z8) R)}{K:Lp (Int×Z8) R->Option Z}{X:Option Z}(l:List α)(tss:List (List (Aa)))(hl:tss.length=l.length)(hb:l.length<=100000000)(w:Z8)(hw:w.l.length+tss.flatten.length<=100000000)
 (hs:∀(k:Nat)(h:k<l.length)(h2:k<tss.length)(v:Z8),v.l.length+tss[k].length<=100000000->body ((k:Int),v)=some (.go (qJ .i64 ((k:Int)+1),⟨v.l++tss[k]⟩)))
 (he:∀v,body ((l.length:Int),v)=some (.brk ((l.length:Int),v))) (hX:K (.brk ((l.length:Int),⟨w.l++tss.flatten⟩))=X):(loopM body NN ((0:Int),w)).bind K=X:=by
 refine run_bind (fun k=>((k:Int),⟨w.l++(tss.take k).flatten⟩)) l.length (.brk ((l.length:Int),⟨w.l++tss.flatten⟩)) (by simp) (by omega) (fun k hk=>?_) ?_ trivial hX
 . have h2:k<tss.length:=by omega
   have:=fl_len h2;rw[hs k hk h2 _ (by simp only[qW];omega)];rw[w64 (by omega),X5g h2,qS]
   rfl
 . rw[<-hl,List.take_length,hl,he]
theorem Y7k{n:Int}(h:U32 n):Wx (fun w=>Q0c w n) [nu n]:=fun w hw=>by
 obtain⟨h0,h1⟩:=h
 dsimp only
 unfold Q0c Q7n
 rw[w64m,Int.emod_eq_of_lt h0 (by omega),if_pos ⟨h0,by omega,rfl⟩,qV]
 have e:Lib.itoa n=nu n:=by unfold Lib.itoa nu;rw[if_neg (by omega)]
 rw[e,Q7c hw]
 rfl
theorem X3z{t:K6}{ts:List (Aa)}(h:WT t ts):Wx (fun w=>Q0b w t) ts:=by
 have key:∀(n:Nat)(w:Z8),w.l.length+n<=100000000->∀x:K6,x.Stars=(n:Int)->(loopM (fun(x4,x5)=>(bif decide (x4<x.Stars)then((Y5 x5 ([([42]:Aa)]:List (Aa))).bind fun y3=>some (Lp.go (qJ .i64 (x4+1),y3)))else(some (Lp.brk (x4,x5))):Option (Lp (Int×Z8) (Unit)))) NN ((0:Int),w)).bind (fun o=>o.thn (fun(x4,x5)=>some x5) (fun _=>none))=some ⟨w.l++kZ n [42]⟩:=by
  intro n w hw x hx;refine Z9v (kZ n ()) (kZ n [[42]]) (by simp) (by simp;omega) w (by simp;omega) (fun k hk h2 v hv=>?_) (fun v=>?_) ?_
  . rw[List.length_replicate]at hk
    dsimp only
    rw[hx,c1 (dt (by omega)),List.getElem_replicate,Q7c (by simp at hv⊢;omega)]
    rfl
  . dsimp only
    rw[hx,List.length_replicate,c0 (dge n)]
  . dsimp only[Lp.thn]
    rw[List.flatten_replicate_singleton]
 intro w hw
 dsimp only
 unfold Q0b jn;cases h with
 |@base u n _ h=>
  simp only[qY,List.length_replicate]at hw
  rw[Q7c (by simp;omega),qV]
  dsimp only
  rw[c0 (df (show¬u=[115,116,114,117,99,116] by rintro rfl;revert h;decide))];have:=key n ⟨w.l++[u]⟩ (by simp;omega) ⟨u,[],n⟩ rfl;rw[this]
  simp
 |@strct s n _ h=>
  simp only[qY,List.length_replicate]at hw
  rw[Q7c (by simp;omega),qV]
  dsimp only
  rw[c1 (dt (show Q1z=[115,116,114,117,99,116]from rfl)),Q7c (by simp;omega),qV];have:=key n ⟨w.l++[Q1z]++[s]⟩ (by simp;omega) ⟨Q1z,s,n⟩ rfl;rw[this]
  simp
theorem X5n(l:List (List (Aa))):(pre l).length=l.length:=by cases l<;>simp[pre]
theorem X5o{l:List (List (Aa))}{k:Nat}(h:k<(pre l).length)(h2:k<l.length):(pre l)[k]=if k=0 then l[k]else[44]::l[k]:=by
 cases l with
 |nil=>cases h2
 |cons a r=>
  cases k with
  |zero=>rfl
  |succ k=>simp[pre]
theorem Z8v{x:Z5}{ts:List (Aa)}{n:Nat}(h:Wx (fun w=>(Z9c n).G8 w x) ts):Wx (fun w=>(Z9c (n+1)).K0 w x) (opd x.Kind ts):=by
 intro w hw;show Q2a (Z9c n) w x=_;unfold Q2a jn
 dsimp only
 by_cases hk:x.Kind=1\/x.Kind=2\/x.Kind=7\/x.Kind=8\/x.Kind=9\/x.Kind=12
 . unfold opd at hw⊢;rw[if_pos hk]at hw⊢;have:=h w hw
   dsimp only at this
   rcases hk with e|e|e|e|e|e<;>simp only[e,Int.reduceBEq,Ak,Aj]<;>rw[this]<;>rfl
 . unfold opd at hw⊢;rw[if_neg hk]at hw⊢
   simp only[not_or]at hk
   obtain⟨h1,h2,h3,h4,h5,h6⟩:=hk;rw[c0 (beq_eq_false_iff_ne.2 h1),c0 (beq_eq_false_iff_ne.2 h2),c0 (beq_eq_false_iff_ne.2 h3),c0 (beq_eq_false_iff_ne.2 h4),c0 (beq_eq_false_iff_ne.2 h5),c0 (beq_eq_false_iff_ne.2 h6)];exact((Wx.put (ts:=[[40]])).bd (h.bd ((Wx.put (ts:=[[41]])).bd Wx.id))).cg (by simp) w hw
theorem X0v{ps:List (Z5×List (Aa))}{n:Nat}(hl:ps.length<=1000000)(h:∀q∈ps,Wx (fun w=>(Z9c n).G8 w q.1) q.2):Wx (fun w=>(Z9c (n+1)).E2 w (ps.map (·.1))) (sep (ps.map (·.2))):=by
 intro w hw;show Q4d (Z9c n) w (ps.map (·.1))=_;unfold Q4d;refine Z9v (ps.map (·.1)) (pre (ps.map (·.2))) (by rw[X5n];simp) (by simp;omega) w (by unfold sep at hw;exact hw) (fun k hk h2 v hv=>?_) (fun v=>by dsimp only;rw[c0 (dge _)]) rfl;have hk':k<ps.length:=by simpa using hk
 rw[X5o h2 (by simpa using hk')]at hv⊢
 dsimp only
 rw[c1 (dlt hk),E8 hk,qV]
 simp only[jn,List.getElem_map]at hv⊢
 have e:=h _ (jT hk')
 by_cases h0:k=0
 . subst h0;rw[if_pos rfl]at hv⊢;have e1:(Z9c n).G8 v ps[0].1=_:=e v hv;rw[c0 (df (by omega)),e1]
   rfl
 . rw[if_neg h0]at hv⊢
   simp only[qY]at hv
   have e1:(Z9c n).G8 ⟨v.l++[[44]]⟩ ps[k].1=_:=e _ (by simp;omega);rw[c1 (dt (by omega)),Q7c (by simp;omega),qV,e1]
   simp
theorem smem{α:Type}{w:α->Nat}{x:α}:∀{l:List α},x∈l->w x<=sm w l
 |y::l,h=>by
  rw[Q3q]
  rcases qZ.1 h with rfl|h
  . omega
  . have:=smem (w:=w) h;omega
theorem sm_map{ps:List (Z5×List (Aa))}{q:Z5×List (Aa)}(h:q∈ps):wE q.1<=sm wE (ps.map (·.1)):=smem (List.mem_map_of_mem h)
theorem expr_w{x:Z5}{ts:List (Aa)}(h:WE x ts):wE x<=1000000->∀n,3*wE x<=n->Wx (fun w=>(Z9c n).G8 w x) ts:=by
 induction h with
 |num h=>
  intro hb n hn;rw[wEk]at hn;obtain⟨m,rfl⟩:∃m,n=m+1:=⟨n-1,by omega⟩;exact((Y7k h).bd Wx.id).cg (by simp)
 |name h=>
  intro hb n hn;rw[wEk]at hn;obtain⟨m,rfl⟩:∃m,n=m+1:=⟨n-1,by omega⟩;exact(Wx.put.bd Wx.id).cg (by simp)
 |una h k ih=>
  intro hb n hn;rw[wEk,sm1]at hn hb;obtain⟨m,rfl⟩:∃m,n=m+2:=⟨n-2,by omega⟩;exact((Wx.put (ts:=[_])).bd ((Z8v (ih (by omega) m (by omega))).bd Wx.id)).cg (by simp)
 |pp h k ih=>
  intro hb n hn;rw[wEk,sm1]at hn hb;obtain⟨m,rfl⟩:∃m,n=m+2:=⟨n-2,by omega⟩;exact((Wx.put (ts:=[_])).bd ((Z8v (ih (by omega) m (by omega))).bd Wx.id)).cg (by simp)
 |bin h k j ih ij=>
  intro hb n hn;rw[wEk,sm2]at hn hb;obtain⟨m,rfl⟩:∃m,n=m+3:=⟨n-3,by omega⟩;exact((((Z8v (ih (by omega) m (by omega))).bd ((Wx.put (ts:=[_])).bd ((Z8v (ij (by omega) m (by omega))).bd Wx.id))).bd Wx.id)).cg (by simp)
 |asg h k j ih ij=>
  intro hb n hn;rw[wEk,sm2]at hn hb;obtain⟨m,rfl⟩:∃m,n=m+3:=⟨n-3,by omega⟩;exact((((Z8v (ih (by omega) m (by omega))).bd ((Wx.put (ts:=[_])).bd ((Z8v (ij (by omega) m (by omega))).bd Wx.id))).bd Wx.id)).cg (by simp)
 |cond k j i ih ij ii=>
  intro hb n hn;rw[wEk,sm3]at hn hb;obtain⟨m,rfl⟩:∃m,n=m+3:=⟨n-3,by omega⟩;exact((((Z8v (ih (by omega) m (by omega))).bd ((Wx.put (ts:=[[63]])).bd ((Z8v (ij (by omega) m (by omega))).bd Wx.id)))).bd ((Wx.put (ts:=[[58]])).bd ((Z8v (ii (by omega) (m+1) (by omega))).bd Wx.id))).cg (by simp)
 |inp=>
  intro hb n hn;rw[wEk]at hn;obtain⟨m,rfl⟩:∃m,n=m+2:=⟨n-2,by omega⟩;exact((Wx.put (ts:=[_,_])).bd ((X0v (ps:=[]) (n:=m) (by simp) (fun q hq=>by cases hq)).bd ((Wx.put (ts:=[_])).bd Wx.id))).cg (by simp[sep,pre])
 |@out p x ts k ih=>
  intro hb n hn;rw[wEk,sm1]at hn hb;obtain⟨m,rfl⟩:∃m,n=m+2:=⟨n-2,by omega⟩;exact((Wx.put (ts:=[_,_])).bd ((X0v (ps:=[(x,ts)]) (n:=m) (by simp) (fun q hq=>by rw[kQ.1 hq];exact ih (by omega) m (by omega))).bd ((Wx.put (ts:=[_])).bd Wx.id))).cg (by simp[sep,pre])
 |@call p s ps h k ih=>
  intro hb n hn;rw[wEk]at hn hb;obtain⟨m,rfl⟩:∃m,n=m+2:=⟨n-2,by omega⟩;have hl:=Q1u Q3k (ps.map (·.1));rw[List.length_map]at hl;exact((Wx.put (ts:=[_,_])).bd ((X0v (ps:=ps) (n:=m) (by omega) (fun q hq=>by have:=sm_map hq;exact ih q hq (by omega) m (by omega))).bd ((Wx.put (ts:=[_])).bd Wx.id))).cg (by simp)
 |idx k j ih ij=>
  intro hb n hn;rw[wEk,sm2]at hn hb;obtain⟨m,rfl⟩:∃m,n=m+2:=⟨n-2,by omega⟩;exact((Z8v (ih (by omega) m (by omega))).bd ((Wx.put (ts:=[_])).bd ((ij (by omega) (m+1) (by omega)).bd ((Wx.put (ts:=[_])).bd Wx.id)))).cg (by simp)
 |mem h hs k ih=>
  intro hb n hn;rw[wEk,sm1]at hn hb;obtain⟨m,rfl⟩:∃m,n=m+2:=⟨n-2,by omega⟩;exact((Z8v (ih (by omega) m (by omega))).bd ((Wx.put (ts:=[_,_])).bd Wx.id)).cg (by simp)
 |post h k ih=>
  intro hb n hn;rw[wEk,sm1]at hn hb;obtain⟨m,rfl⟩:∃m,n=m+2:=⟨n-2,by omega⟩;exact((Z8v (ih (by omega) m (by omega))).bd ((Wx.put (ts:=[_])).bd Wx.id)).cg (by simp)
 |size h=>
  intro hb n hn;rw[Y6u]at hn;obtain⟨m,rfl⟩:∃m,n=m+1:=⟨n-1,by omega⟩;exact((Wx.put (ts:=[_,_])).bd ((X3z h).bd ((Wx.put (ts:=[_])).bd Wx.id))).cg (by simp[Y9c])
theorem Z0p{k:Int}{ts:List (Aa)}:(opd k ts).length<=ts.length+2:=by
 unfold opd
 split<;>simp
theorem X5l:∀{ps:List (Z5×List (Aa))},(∀q∈ps,q.2.length+3<=12*wE q.1)->(sep (ps.map (·.2))).length+2*ps.length<=12*sm wE (ps.map (·.1)):=by
 have tl:∀ps:List (Z5×List (Aa)),(∀q∈ps,q.2.length+3<=12*wE q.1)->(((ps.map (·.2)).map fun t=>[44]::t).flatten).length+2*ps.length<=12*sm wE (ps.map (·.1)):=by
  intro ps
  induction ps with
  |nil=>intro _;simp[sm]
  |cons q ps ih=>
   intro h;have h1:=h q (by simp);have h2:=ih fun q hq=>h q (by simp[hq])
   simp only[List.map_cons,List.flatten_cons,qW,qY,Q3q]at h2⊢
   omega
 intro ps h;cases ps with
 |nil=>simp[sep,pre,sm]
 |cons q ps=>
  have h1:=h q (by simp);have h2:=tl ps fun q hq=>h q (by simp[hq])
  have h3:(sep ((q::ps).map (·.2))).length=q.2.length+(((ps.map (·.2)).map fun t=>[44]::t).flatten).length:=qW
  rw[h3];simp only[List.map_cons,qY,Q3q]
  omega
theorem WT.len{t:K6}{ts:List (Aa)}(h:WT t ts):ts.length<=t.Stars.toNat+2:=by
 cases h<;>simp
theorem WE.len{x:Z5}{ts:List (Aa)}(h:WE x ts):ts.length+3<=12*wE x:=by
 induction h with
 |num h=>rw[wEk];simp;omega
 |name h=>rw[wEk];simp;omega
 |@una p o x ts h k ih=>have:=@Z0p x.Kind ts;rw[wEk,sm1];simp only[qY];omega
 |@pp p o x ts h k ih=>have:=@Z0p x.Kind ts;rw[wEk,sm1];simp only[qY];omega
 |@bin p o x y ts us h k j ih ij=>have:=@Z0p x.Kind ts;have:=@Z0p y.Kind us;rw[wEk,sm2];simp only[qY,qW];omega
 |@asg p o x y ts us h k j ih ij=>have:=@Z0p x.Kind ts;have:=@Z0p y.Kind us;rw[wEk,sm2];simp only[qY,qW];omega
 |@cond p x y z ts us vs k j i ih ij ii=>have:=@Z0p x.Kind ts;have:=@Z0p y.Kind us;have:=@Z0p z.Kind vs;rw[wEk,sm3];simp only[qY,qW];omega
 |inp=>rw[wEk];simp[inW];omega
 |out k ih=>rw[wEk,sm1];simp only[qY,qW,jF];omega
 |call h k ih=>have:=X5l ih;rw[wEk];simp only[qY,qW,jF];omega
 |@idx p x y ts us k j ih ij=>have:=@Z0p x.Kind ts;rw[wEk,sm2];simp only[qY,qW,jF];omega
 |@mem p o s x ts h hs k ih=>have:=@Z0p x.Kind ts;rw[wEk,sm1];simp only[qY,qW,jF];omega
 |@post p o x ts h k ih=>have:=@Z0p x.Kind ts;rw[wEk,sm1];simp only[qY,qW,jF];omega
 |size h=>have:=h.len;rw[Y6u];simp only[qY,qW,jF];omega
section
variable{r:Z0}{t:Y8}{l:List Y8}{m s:Aa}
theorem Kt.four(h:Kt t s)(c:s∈Q0f):t.Kind=4:=(h.at (km c)).1
theorem Kt.two(h:Kt t s)(c:s∈Z0e):t.Kind=2:=(h.at (kw c)).1
theorem is_t(h:r.l=t::l)(ht:t.Text=m)(hk:t.Kind=2\/t.Kind=4):X8 r m=some true:=by
 obtain⟨a,e,d⟩:=r;subst h;exact X4r ht hk
def Ff(t:Y8)(m:Aa):Prop:=t.Text≠m\/t.Kind≠2/\t.Kind≠4
theorem Y6f(h:r.l=t::l)(ht:Ff t m):X8 r m=some false:=by
 obtain⟨b,hb,hc⟩:=Z0d r m;cases b with
 |false=>exact hb
 |true=>
  obtain⟨t',l',e,e2,e3⟩:=hc rfl;rw[h]at e;cases e
  rcases ht with ht|ht
  . exact absurd e2 ht
  . exact absurd e3 (by omega)
theorem Z4u(h:r.l=t::l)(ht:t.Text=m)(hk:t.Kind=2\/t.Kind=4):∃r',Y6 r m=some (true,r')/\r'.l=l:=by
 obtain⟨a,e,d⟩:=r;subst h;exact⟨_,X2e ht hk,rfl⟩
theorem Q7m(h:r.l=t::l)(ht:Ff t m):Y6 r m=some (false,r):=by
 unfold Y6;exact bnd (Y6f h ht) rfl
theorem Y5a(h:r.l=t::l)(ht:t.Text=m)(hk:t.Kind=2\/t.Kind=4):∃r',Y7 r m=some (.ok r')/\r'.l=l:=by
 obtain⟨r',e,h'⟩:=Z4u h ht hk;refine⟨r',?_,h'⟩;unfold Y7;exact bnd e rfl
theorem must_f(h:r.l=t::l)(ht:Ff t m):Hc (Y7 r m) (Oe fun _=>False):=by
 unfold Y7;refine Hc.st (Q7m h ht) ?_;obtain⟨e,he⟩:=Z5f r 3;exact Hc.st he (Hc.ok trivial)
theorem Z1a(h:r.l=t::l)(hk:t.Kind=4):F6 r=some t.Text:=by
 obtain⟨a,e,d⟩:=r;subst h;exact Y4b hk
theorem mark_n(h:r.l=t::l)(hk:t.Kind≠4):F6 r=some []:=by
 obtain⟨a,e,d⟩:=r;subst h;exact Y5b hk
theorem Z7w(h:r.l=t::l)(hk:t.Kind=4)(k:Int):∃p r',V4 r k=some (⟨k,p,t.Text,[],0,T0n,[]⟩,r')/\r'.l=l:=by
 obtain⟨a,e,d⟩:=r;subst h;refine⟨t.Pos,⟨l,e,d⟩,?_,rfl⟩;unfold V4;exact bnd (Y6k t l e d) (bnd (Y4b hk) (bnd (Z3i t l) rfl))
theorem X0y{k:Int}(h:r.l=t::l)(hk:t.Kind=k):∃r',B4 r k=some (.ok (t,r'))/\r'.l=l:=by
 obtain⟨a,e,d⟩:=r;subst h;exact⟨_,Y7t hk,rfl⟩
theorem Y7l(h:r.l=t::l)(hk:Kt t s)(hs:Nm s):∃r',U7 r=some (.ok (s,r'))/\r'.l=l:=by
 obtain⟨r',e,h'⟩:=X0y h (hk.at hs).1;refine⟨r',?_,h'⟩;unfold U7;refine bnd e ?_;rw[<-hk.tx]
 rfl
theorem Q8l:Hc (D5 r) (Oe fun r'=>r'.l=r.l):=by
 unfold D5 jn
 dsimp only
 cases r.depth==200 with
 |true=>
  obtain⟨e,he⟩:=Z5f r 2;rw[Ak];exact Hc.st he (Hc.ok trivial)
 |false=>exact Hc.ok rfl
theorem Z2d(h:Kt t s)(hs:s≠m):Ff t m:= .inl (by rw[h.tx];exact hs)
theorem Z8e(h:Kt t s)(hs:Nm s):Ff t m:= .inr (by rw[(h.at hs).1];decide)
theorem Y5d{n:Int}(h:Kt t s)(hs:Tx s 3 n):Ff t m:= .inr (by rw[(h.at hs).1];decide)
theorem ffd(h:Kt t s)(hs:s≠m:=by decide):Ff t m:=Z2d h hs
theorem Kt.f4(h:Kt t s)(c:s∈Q0f:=by decide):t.Kind=4:=h.four c
theorem Kt.t2(h:Kt t s)(c:s∈Z0e:=by decide):t.Kind=2:=h.two c
theorem Kt.k(h:Kt t s)(c:s∈Z0e\/s∈Q0f):t.Kind=2\/t.Kind=4:=c.imp h.two h.four
theorem Q5f(h:r.l=t::l)(k:Kt t s)(c:s∈Z0e\/s∈Q0f:=by decide):∃r',Y7 r s=some (.ok r')/\r'.l=l:=Y5a h k.tx (k.k c)
theorem Q6r(h:r.l=t::l)(k:Kt t s)(c:s∈Z0e\/s∈Q0f:=by decide):∃r',Y6 r s=some (true,r')/\r'.l=l:=Z4u h k.tx (k.k c)
theorem is_m(h:r.l=t::l)(k:Kt t s)(c:s∈Z0e\/s∈Q0f:=by decide):X8 r s=some true:=is_t h k.tx (k.k c)
theorem tkf{Z:Type}{A B:Bool×Z0->Option Z}(h:r.l=t::l)(k:Ff t m):((Y6 r m).bind fun y=>bif y.1 then A y else B y)=B (false,r):=by
 rw[Q7m h k]
 rfl
theorem isf{Z:Type}{A B:Option Z}(h:r.l=t::l)(k:Ff t m):((X8 r m).bind fun y=>bif y then A else B)=B:=by
 rw[Y6f h k]
 rfl
end
theorem EqE.nil{a b:List Z5}(h:Fl EqE a b){k:Int}{p q:Pos}{o n:Aa}{m:Int}{t:K6}:EqE ⟨k,p,o,n,m,t,a⟩ ⟨k,q,o,n,m,t,b⟩:= .mk rfl rfl rfl rfl rfl h.1 h.2
section
variable{A:Type}{R:A->A->Prop}
theorem Fl.nil:Fl R [] []:=⟨rfl,fun i x y h=>by cases h⟩
theorem Fl.app{a b c d:List A}(h:Fl R a b)(k:Fl R c d):Fl R (a++c) (b++d):=by
 refine⟨by simp[h.1,k.1],fun i x y hx hy=>?_⟩
 by_cases hi:i<a.length
 . rw[kR hi]at hx;rw[kR (by rw[<-h.1];exact hi)]at hy;exact h.2 i x y hx hy
 . rw[kS (by omega)]at hx;rw[kS (by rw[<-h.1];omega),<-h.1]at hy;exact k.2 _ x y hx hy
theorem Fl.one{x y:A}(h:R x y):Fl R [x] [y]:=⟨rfl,fun i a b ha hb=>by
 cases i with
 |zero=>cases ha;cases hb;exact h
 |succ i=>cases ha⟩
theorem Fl.cons{x y:A}{a b:List A}(h:R x y)(k:Fl R a b):Fl R (x::a) (y::b):=(Fl.one h).app k
end
def Z2o:List (Aa):=[[91],[46],[45,62],[43,43],[45,45]]
def Z9f:List (Aa):=[[41],[93],[44],[59],[58],[125]]
def Hdm(L:List (Aa))(l:List Y8):Prop:=∃t k,l=t::k/\t.Kind=4/\t.Text∈L
def H4(l:List Y8):Prop:=∃t k,l=t::k/\t.Kind=4/\t.Text≠[40]
def N4(l:List Y8):Prop:=∃t k,l=t::k/\t.Kind=4/\t.Text≠[40]/\t.Text∉Z2o
def EP(P:Z5->List Y8->Prop):An (Z5×Z0)->Prop:=Oe fun z=>P z.1 z.2.l
def Qx(x:Z5)(l:List Y8)(y:Z5)(k:List Y8):Prop:=EqE x y/\k=l\/Hdm Z2o k
def Z5r(G:Z1q)(x:Z5)(r:Z0):Option (An (Z5×Z0)):=D4 {G with J7:=fun _=>some (.ok (x,r))} r
theorem X4h{G:Z1q}{r:Z0}{Q:An (Z5×Z0)->Prop}(h:Hc (G.J7 r) (Oe fun z=>Hc (Z5r G z.1 z.2) Q))(e:∀x,Q (.error x)):Hc (D4 G r) Q:=by
 unfold D4;exact Hc.bx h (fun x hx=>hx) (fun x=>Hc.ok (e _))
theorem Y7i{G:Z1q}{x:Z5}{r:Z0}(h:N4 r.l):Z5r G x r=some (.ok (x,r)):=by
 obtain⟨t,k,hl,hk,h1,h2⟩:=h
 simp only[Z2o,qZ,List.not_mem_nil,or_false,not_or]at h2
 obtain⟨a1,a2,a3,a4,a5⟩:=h2;unfold Z5r D4;refine run_bind (fun _=>(x,r)) 0 (.ret (.ok (x,r))) rfl (by decide) (fun k hk=>by omega) ?_ trivial rfl
 dsimp only[jn]
 rw[Z1a hl hk,qV,c0 (df a1),c0 (df a2),df a3,Aj,c0 (df a4),df a5,Aj]
theorem post_idx{G:Z1q}{x:Z5}{r:Z0}{t:Y8}{l:List Y8}{Q:An (Z5×Z0)->Prop}(hl:r.l=t::l)(hk:t.Kind=4)(ht:t.Text=[91])(e:∀x,Q (.error x))
 (h:∀p r1,r1.l=l->Hc (G.X3 r1) (Oe fun z=>Hc (Y7 z.2 [93]) (Oe fun r2=>Hc (Z5r G ⟨8,p,[],[],0,T0n,[x,z.1]⟩ r2) Q))):Hc (Z5r G x r) Q:=by
 unfold Z5r D4;refine Hc.l1 (n:=NN) (s:=(x,r)) ?_
 dsimp only[jn]
 obtain⟨p,r1,e1,h1⟩:=Z7w hl hk 8;rw[Z1a hl hk,qV,c1 (dt ht),e1,qV];refine Hc.bx (h p r1 h1) (fun z hz=>Hc.bx hz (fun r2 h2=>Hc.ok h2) fun x=>Hc.ok (Hc.ok (e _))) fun x=>Hc.ok (Hc.ok (e _))
theorem post_mem{G:Z1q}{x:Z5}{r:Z0}{t u:Y8}{s:Aa}{l:List Y8}{Q:An (Z5×Z0)->Prop}(hl:r.l=t::u::l)(hk:t.Kind=4)(ht:t.Text∈mbO)(hu:Kt u s)(hs:Nm s)(e:∀x,Q (.error x))
 (h:∀p r1,r1.l=l->Hc (Z5r G ⟨9,p,t.Text,s,0,T0n,[x]⟩ r1) Q):Hc (Z5r G x r) Q:=by
 unfold Z5r D4;refine Hc.l1 (n:=NN) (s:=(x,r)) ?_
 dsimp only[jn]
 obtain⟨p,r1,e1,h1⟩:=Z7w hl hk 9;obtain⟨r2,e2,h2⟩:=Y7l h1 hu hs;rw[Z1a hl hk,qV,c0 (df (by rintro h;rw[h]at ht;revert ht;decide)),e1]
 have hb:(bif decide (t.Text=([46]:Aa))then decide (t.Text=([46]:Aa))else decide (t.Text=([45,62]:Aa)))=true:=by
  simp only[mbO,qZ,List.not_mem_nil,or_false]at ht
  rcases ht with ht|ht<;>rw[ht]<;>rfl
 cases hd:decide (t.Text=([46]:Aa))<;>rw[hd]at hb<;>simp only[Ak,Aj]at hb⊢<;>(try rw[hb])<;>(try rw[Ak])<;>rw[qV,e2,qV]<;>exact Hc.ok (h p r2 h2)
theorem post_pp{G:Z1q}{x:Z5}{r:Z0}{t:Y8}{l:List Y8}{Q:An (Z5×Z0)->Prop}(hl:r.l=t::l)(hk:t.Kind=4)(ht:t.Text∈ppO)(e:∀x,Q (.error x))
 (h:∀p r1,r1.l=l->Hc (Z5r G ⟨11,p,t.Text,[],0,T0n,[x]⟩ r1) Q):Hc (Z5r G x r) Q:=by
 unfold Z5r D4;refine Hc.l1 (n:=NN) (s:=(x,r)) ?_
 dsimp only[jn]
 obtain⟨p,r1,e1,h1⟩:=Z7w hl hk 11;have hn:∀m:Aa,m∉ppO->¬t.Text=m:=fun m hm h=>hm (h▸ht);rw[Z1a hl hk,qV,c0 (df (hn _ (by decide))),c0 (df (hn _ (by decide))),df (hn _ (by decide)),Aj,e1]
 have hb:(bif decide (t.Text=([43,43]:Aa))then decide (t.Text=([43,43]:Aa))else decide (t.Text=([45,45]:Aa)))=true:=by
  simp only[ppO,qZ,List.not_mem_nil,or_false]at ht
  rcases ht with ht|ht<;>rw[ht]<;>rfl
 cases hd:decide (t.Text=([43,43]:Aa))<;>rw[hd]at hb<;>simp only[Ak,Aj]at hb⊢<;>(try rw[hb])<;>(try rw[Ak])<;>exact Hc.ok (h p r1 h1)
theorem Z0z:∀s∈Z2o,Q2g s=some 0/\s≠[63]/\Q0q s=some false:=by decide+kernel
theorem Q9f:∀s∈Z9f,Q2g s=some 0/\s≠[63]/\Q0q s=some false/\s≠[40]/\s∉Z2o:=by decide+kernel
theorem Y9x:∀s∈binO,(Q2g s).isSome=true/\1<=(Q2g s).getD 0/\s≠[40]/\s∉Z2o/\s∈Q0f:=by decide+kernel
theorem X7p:∀s∈asgO,Q2g s=some 0/\s≠[63]/\Q0q s=some true/\s≠[40]/\s∉Z2o/\s∈Q0f:=by decide+kernel
def Hm(F:Aa->Prop)(l:List Y8):Prop:=∃t k,l=t::k/\t.Kind=4/\F t.Text
def R0(s:Aa):Prop:=Q2g s=some 0
section
variable{P:Z5->List Y8->Prop}{x y:Z5}{r:Z0}{t:Y8}{l l':List Y8}{n:Nat}
theorem un_post(hl:r.l=t::l)(h:t.Kind≠4\/t.Text=[40])(hs:Ff t Y9c)(k:∀m r1,r1.l=r.l->Hc ((M1 m).J7 r1) (Oe fun z=>Hc (Z5r (M1 m) z.1 z.2) (EP P))):Hc ((M1 n).X9 r) (EP P):=by
 cases n with
 |zero=>exact Hc.no
 |succ n=>
  show Hc (G9 (M1 n) r) _;unfold G9;refine Hc.bx Q8l (fun r1 h1=>?_)
  have hm:∃m,F6 r1=some m/\∀s∈unaO++ppO,¬m=s:=by
   by_cases hk:t.Kind=4
   . rcases h with h|h
     . exact absurd hk h
     . refine⟨_,Z1a (h1.trans hl) hk,?_⟩;rw[h]
       decide
   . exact⟨_,mark_n (h1.trans hl) hk,by decide⟩
  obtain⟨m,hm,hn⟩:=hm
  dsimp only[jn]
  rw[hm,qV,c0 (df (hn _ (by decide))),c0 (df (hn _ (by decide))),c0 (df (hn _ (by decide))),c0 (df (hn _ (by decide))),df (hn _ (by decide)),Aj,c0 (df (hn _ (by decide))),df (hn _ (by decide)),Aj];refine Hc.sk fun p=>Hc.st (Q7m (h1.trans hl) hs) ?_;cases n with
  |zero=>exact Hc.no
  |succ n=>exact Hc.bx (X4h (k n r1 h1) fun _=>trivial) fun z hz=>Hc.ok hz
theorem un_una(hl:r.l=t::l)(hk:t.Kind=4)(ht:t.Text∈unaO)(k:∀m r1 p,r1.l=l->Hc ((M1 m).X9 r1) (EP fun y k=>P ⟨3,p,t.Text,[],0,T0n,[y]⟩ k)):Hc ((M1 n).X9 r) (EP P):=by
 cases n with
 |zero=>exact Hc.no
 |succ n=>
  show Hc (G9 (M1 n) r) _;unfold G9;refine Hc.bx Q8l (fun r1 h1=>?_);obtain⟨p,r2,e2,h2⟩:=Z7w (h1.trans hl) hk 3
  dsimp only[jn]
  rw[Z1a (h1.trans hl) hk,qV]
  have main:Hc ((V4 r1 3).bind fun y3=>((M1 n).X9 y3.2).bind fun y4=>exC y4 (fun y4=>some (qX ({y3.1 with Kids:=([y4.1]:List Z5)},{y4.2 with depth:=qJ .i64 (y4.2.depth-1)}))) (fun e1=>some (qK (e1.1,{e1.2 with depth:=qJ .i64 (e1.2.depth-1)})))) (EP P):=
   Hc.st e2 (Hc.bx (k n r2 p h2) fun z hz=>Hc.ok hz)
  simp only[unaO,qZ,List.not_mem_nil,or_false]at ht
  rcases ht with ht|ht|ht|ht|ht<;>rw[ht]<;>exact main
theorem un_pp(hl:r.l=t::l)(hk:t.Kind=4)(ht:t.Text∈ppO)(k:∀m r1 p,r1.l=l->Hc ((M1 m).X9 r1) (EP fun y k=>P ⟨10,p,t.Text,[],0,T0n,[y]⟩ k)):Hc ((M1 n).X9 r) (EP P):=by
 cases n with
 |zero=>exact Hc.no
 |succ n=>
  show Hc (G9 (M1 n) r) _;unfold G9;refine Hc.bx Q8l (fun r1 h1=>?_);obtain⟨p,r2,e2,h2⟩:=Z7w (h1.trans hl) hk 10
  dsimp only[jn]
  rw[Z1a (h1.trans hl) hk,qV]
  have main:Hc ((V4 r1 10).bind fun y3=>((M1 n).X9 y3.2).bind fun y4=>exC y4 (fun y4=>some (qX ({y3.1 with Kids:=([y4.1]:List Z5)},{y4.2 with depth:=qJ .i64 (y4.2.depth-1)}))) (fun e1=>some (qK (e1.1,{e1.2 with depth:=qJ .i64 (e1.2.depth-1)})))) (EP P):=
   Hc.st e2 (Hc.bx (k n r2 p h2) fun z hz=>Hc.ok hz)
  simp only[ppO,qZ,List.not_mem_nil,or_false]at ht
  rcases ht with ht|ht<;>rw[ht]<;>exact main
def binF(G:Z1q)(x:Z5)(r:Z0)(k:Int):Option (An (Z5×Z0)):=D9 {G with X9:=fun _=>some (.ok (x,r))} r k
theorem X1m{G:Z1q}{k:Int}(h:Hm R0 r.l):binF G x r k=some (.ok (x,r)):=by
 obtain⟨t,l,hl,hk,h0⟩:=h;unfold binF D9;refine run_bind (fun _=>(x,r)) 0 (.ret (.ok (x,r))) rfl (by decide) (fun k hk=>by omega) ?_ trivial rfl
 dsimp only
 rw[Z1a hl hk,qV,h0,qV];cases decide ((0:Int)<k)<;>rfl
theorem bin_step{G:Z1q}{Q:An (Z5×Z0)->Prop}(hl:r.l=t::l)(hk:t.Kind=4)(ht:t.Text∈binO)(e:∀x,Q (.error x))
 (h:∀p r1 k,r1.l=l->Hc (G.J4 r1 k) (Oe fun z=>Hc (binF G ⟨4,p,t.Text,[],0,T0n,[x,z.1]⟩ z.2 1) Q)):Hc (binF G x r 1) Q:=by
 obtain⟨f1,f2,_⟩:=Y9x _ ht;obtain⟨v,hv⟩:=Option.isSome_iff_exists.1 f1;rw[hv,Option.getD_some]at f2;unfold binF D9;refine Hc.l1 (n:=NN) (s:=(x,r)) ?_
 dsimp only
 obtain⟨p,r1,e1,h1⟩:=Z7w hl hk 4;rw[Z1a hl hk,qV,hv,qV,c0 (df (by omega)),c0 (beq_eq_false_iff_ne.2 (by omega)),e1,qV];exact Hc.bx (h p r1 _ h1) (fun z hz=>Hc.ok hz) fun x=>Hc.ok (Hc.ok (e _))
theorem bi_any{k:Int}{T:Z5×Z0->Prop}{Q:An (Z5×Z0)->Prop}(e:∀x,Q (.error x))(h:∀m,Hc ((M1 m).X9 r) (Oe T))(hk:∀m z,T z->Hc (binF (M1 m) z.1 z.2 k) Q):Hc ((M1 n).J4 r k) Q:=by
 cases n with
 |zero=>exact Hc.no
 |succ n=>
  show Hc (D9 (M1 n) r k) _;unfold D9;exact Hc.bx (h n) (fun z hz=>hk n z hz) fun x=>Hc.ok (e _)
theorem Qx.head{F:Aa->Prop}(h:Qx x l' y l)(hf:Hm F l')(hp:∀s∈Z2o,F s):Hm F l:=by
 rcases h with⟨_,rfl⟩|⟨t,k,h1,h2,h3⟩
 . exact hf
 . exact⟨t,k,h1,h2,hp _ h3⟩
theorem X3n{k:Int}(h:∀m,Hc ((M1 m).X9 r) (EP (Qx x l')))(h0:Hm R0 l'):Hc ((M1 n).J4 r k) (EP (Qx x l')):=by
 refine bi_any (fun _=>trivial) h fun m z hz=>?_;rw[X1m (hz.head h0 fun s hs=>(Z0z s hs).1)];exact Hc.ok hz
theorem co_up(h:∀m,Hc ((M1 m).J4 r 1) (EP (Qx x l')))(h0:Hm (·≠[63]) l'):Hc ((M1 n).D8 r) (EP (Qx x l')):=by
 cases n with
 |zero=>exact Hc.no
 |succ n=>
  show Hc (M2 (M1 n) r) _;unfold M2;refine Hc.bx (h n) fun z hz=>?_;obtain⟨t,k,e1,e2,e3⟩:=hz.head h0 fun s hs=>(Z0z s hs).2.1
  dsimp only
  rw[Z1a e1 e2,qV,df e3];exact Hc.ok hz
theorem as_up(h:∀m r1,r1.l=r.l->Hc ((M1 m).D8 r1) (EP (Qx x l')))(h0:Hm (fun s=>Q0q s=some false) l'):Hc ((M1 n).X3 r) (EP (Qx x l')):=by
 cases n with
 |zero=>exact Hc.no
 |succ n=>
  show Hc (B9 (M1 n) r) _;unfold B9;refine Hc.bx Q8l fun r1 h1=>?_;refine Hc.bx (h n r1 h1) fun z hz=>?_;obtain⟨t,k,e1,e2,e3⟩:=hz.head h0 fun s hs=>(Z0z s hs).2.2
  dsimp only
  rw[Z1a e1 e2,qV,e3];exact Hc.ok hz
theorem Hdm.m{F:Aa->Prop}{L:List (Aa)}(h:Hdm L l)(hf:∀s∈L,F s):Hm F l:=by
 obtain⟨t,k,h1,h2,h3⟩:=h;exact⟨t,k,h1,h2,hf _ h3⟩
theorem Hdm.n4(h:Hdm Z9f l):N4 l:=by
 obtain⟨t,k,h1,h2,h3⟩:=h;exact⟨t,k,h1,h2,(Q9f _ h3).2.2.2⟩
theorem up_u(h:∀m r1,r1.l=r.l->Hc ((M1 m).X9 r1) (EP (Qx x l')))(hc:Hdm Z9f l'):Hc ((M1 n).X3 r) (EP (Qx x l')):=
 as_up (fun m r1 h1=>co_up (fun m=>X3n (fun m=>h m r1 h1) (hc.m fun s hs=>(Q9f s hs).1)) (hc.m fun s hs=>(Q9f s hs).2.1)) (hc.m fun s hs=>(Q9f s hs).2.2.1)
theorem mq{z:Z5×Z0}{m:Aa}(h:Qx x (t::l) z.1 z.2.l)(ht:t.Text=m)(hk:t.Kind=4)(hm:m∉Z2o):Hc (Y7 z.2 m) (Oe fun r2=>EqE x z.1/\r2.l=l):=by
 rcases h with⟨h1,h2⟩|⟨u,k,h1,h2,h3⟩
 . obtain⟨r2,e,h3⟩:=Y5a h2 ht (.inr hk);rw[e];exact Hc.ok ⟨h1,h3⟩
 . exact(must_f (m:=m) h1 (.inl fun e=>hm (e▸h3))).oe fun _ h=>h.elim
end
def Ax(x:Z5)(ts:List (Aa)):Prop:=∀n (r:Z0) l',TL r.l ts l'->Hdm Z9f l'->Hc ((M1 n).X3 r) (EP (Qx x l'))
def Uq(x:Z5)(ts:List (Aa)):Prop:=∀n (r:Z0) l' P,TL r.l ts l'->H4 l'->(∀m x' r',EqE x x'->r'.l=l'->Hc (Z5r (M1 m) x' r') (EP P))->(∀y k,Hdm Z2o k->P y k)->Hc ((M1 n).X9 r) (EP P)
theorem Uq.v{x:Z5}{ts:List (Aa)}(h:Uq x ts){n:Nat}{r:Z0}{l':List Y8}(ht:TL r.l ts l')(hn:N4 l'):Hc ((M1 n).X9 r) (EP (Qx x l')):=by
 refine h n r l' _ ht ?_ (fun m x' r' e1 e2=>?_) (fun y k hk=> .inr hk)
 . obtain⟨t,k,h1,h2,h3,_⟩:=hn;exact⟨t,k,h1,h2,h3⟩
 . rw[Y7i (by rw[e2];exact hn)];exact Hc.ok (.inl ⟨e1,e2⟩)
theorem Uq.ax{x:Z5}{ts:List (Aa)}(h:Uq x ts):Ax x ts:=fun n r l' ht hc=>up_u (fun m r1 h1=>h.v (by rw[h1];exact ht) hc.n4) hc
theorem Z6m{x:Z5}{s:Aa}{ts:List (Aa)}(hh:∀t,Kt t s->(t.Kind≠4\/t.Text=[40])/\Ff t Y9c)(h:∀m (r:Z0) l',TL r.l (s::ts) l'->H4 l'->Hc ((M1 m).J7 r) (Oe fun z=>EqE x z.1/\z.2.l=l')):Uq x (s::ts):=by
 intro n r l' P ht h4 k1 k2;obtain⟨t,k,e1,e2,e3⟩:=ht.one;exact un_post e1 (hh t e2).1 (hh t e2).2 fun m r1 h1=>(h m r1 l' (by rw[h1];exact ht) h4).oe fun z hz=>k1 m z.1 z.2 hz.1 hz.2
theorem uq_paren{x:Z5}{ts:List (Aa)}(h:Ax x ts):Uq x ([40]::(ts++[[41]])):=by
 refine Z6m (fun t ht=>⟨.inr ht.tx,ffd ht⟩) fun m r l' ht h4=>?_;obtain⟨t,k,e1,e2,e3⟩:=ht.one;obtain⟨k2,e4,e5⟩:=e3.app;obtain⟨u,k3,rfl,e7,e8⟩:=e5.one;obtain rfl:=e8.emp;cases m with
 |zero=>exact Hc.no
 |succ m=>
  show Hc (J3 (M1 m) r) _;unfold J3;refine Hc.sk fun p=>?_
  dsimp only[jn]
  obtain⟨r1,f1,f2⟩:=Q6r (s:=[40]) e1 e2;rw[f1,qV,Ak];refine Hc.bx (h m r1 _ (by rw[f2];exact e4) ⟨u,k3,rfl,e7.f4,by rw[e7.tx];decide⟩) fun z hz=>?_;exact Hc.bx (mq hz e7.tx (e7.f4) (by decide)) fun r2 h2=>Hc.ok h2
def hdL:List (Aa):=[[40],[45],[126],[33],[42],[38],[43,43],[45,45],Y9c,inW,Y6b]
def HdE(s:Aa):Prop:=Nm s\/(∃n,Tx s 3 n)\/s∈hdL
theorem HdE.ff{s m:Aa}{t:Y8}(h:HdE s)(ht:Kt t s)(hm:m∉hdL):Ff t m:=by
 rcases h with h|⟨n,h⟩|h
 . exact Z8e ht h
 . exact Y5d ht h
 . exact Z2d ht fun e=>hm (e▸h)
theorem Y1o{k:Int}{ts:List (Aa)}(h:∃s us,ts=s::us/\HdE s)(r:List (Aa)):∃s us,opd k ts++r=s::us/\HdE s:=by
 obtain⟨s,us,rfl,h⟩:=h;unfold opd
 split
 . exact⟨_,_,rfl,h⟩
 . exact⟨_,_,rfl,.inr (.inr (by decide))⟩
theorem WE.fst{x:Z5}{ts:List (Aa)}(h:WE x ts):∃s us,ts=s::us/\HdE s:=by
 induction h with
 |num h=>exact⟨_,_,rfl,.inr (.inl ⟨_,Y2j h⟩)⟩
 |name h=>exact⟨_,_,rfl,.inl h⟩
 |una h k ih=>exact⟨_,_,rfl,.inr (.inr ((by decide:∀s∈unaO,s∈hdL) _ h))⟩
 |pp h k ih=>exact⟨_,_,rfl,.inr (.inr ((by decide:∀s∈ppO,s∈hdL) _ h))⟩
 |bin h k j ih ij=>exact Y1o ih _
 |asg h k j ih ij=>exact Y1o ih _
 |cond k j i ih ij ii=>exact Y1o ih _
 |inp=>exact⟨_,_,rfl,.inr (.inr (by decide))⟩
 |out k ih=>exact⟨_,_,rfl,.inr (.inr (by decide))⟩
 |call h k ih=>exact⟨_,_,rfl,.inl h⟩
 |idx k j ih ij=>exact Y1o ih _
 |mem h hs k ih=>exact Y1o ih _
 |post h k ih=>exact Y1o ih _
 |size h=>exact⟨_,_,rfl,.inr (.inr (by decide))⟩
theorem star_r{l':List Y8}(hn:∃u k,l'=u::k/\Ff u [42]){n:Nat}(hb:n<=1000000)(w s:Aa)(r:Z0)(hr:TL r.l (kZ n [42]) l'):Hc ((loopM (fun(x3,x4)=>((Y6 x4 ([42]:Aa)).bind fun y4=>bif y4.1 then(some (Lp.go ({x3 with Stars:=qJ .i64 (x3.Stars+1)},y4.2)))else(some (Lp.brk (x3,y4.2))):Option (Lp (K6×Z0) (Unit)))) NN ((⟨w,s,0⟩:K6),r)).bind fun o=>o.thn (fun(x3,x4)=>some (qX (ε:=Z7×Z0) (x3,x4))) (fun _=>none)) (Oe fun z=>z.1=(⟨w,s,(n:Int)⟩:K6)/\z.2.l=l'):=by
 obtain⟨lu,lk,hlu,hlf⟩:=hn;refine Hc.lp (fun z=>∃k:Nat,k<=n/\z.1=⟨w,s,(k:Int)⟩/\TL z.2.l (kZ (n-k) [42]) l') ?_ NN _ ⟨0,by omega,rfl,hr⟩;rintro⟨x,r⟩ ⟨k,hk,h1,h2⟩
 dsimp only at h1 h2⊢
 subst h1
 by_cases h:n-k=0
 . rw[h]at h2;have e:=h2.emp;rw[Q7m (e.trans hlu) hlf];obtain rfl:k=n:=by omega
   exact Hc.ok (Hc.ok ⟨rfl,e⟩)
 . rw[show n-k=(n-(k+1))+1 by omega,List.replicate_succ]at h2;obtain⟨t,l,e1,e2,e3⟩:=h2.one;obtain⟨r2,e4,e5⟩:=Q6r e1 e2;rw[e4];exact Hc.ok ⟨k+1,by omega,by dsimp only;rw[w64 (by omega)];rfl,by rw[e5];exact e3⟩
theorem X0f{r:Z0}{t:Y8}{l:List Y8}{s:Aa}(h:r.l=t::l)(hk:Kt t s)(hs:s∈Z3z\/s=Q1z):P0 r=some true:=by
 have h2:t.Kind=2:=hk.two (by rcases hs with h|rfl;exact(by decide:∀s∈Z3z,s∈Z0e) _ h;decide);unfold P0
 have one:∀m,(X8 r m)=some (decide (s=m)):=fun m=>by
  by_cases e:s=m
  . rw[dt e];exact is_t h (hk.tx.trans e) (.inl h2)
  . rw[df e];exact Y6f h (Z2d hk e)
 rw[one,one,one,one]
 simp only[Z3z,qZ,List.not_mem_nil,or_false]at hs
 rcases hs with(rfl|rfl|rfl)|rfl<;>rfl
theorem Y6i{r:Z0}{t:Y8}{l:List Y8}(h:r.l=t::l)(hk:∀s∈Q1z::Z3z,Ff t s):P0 r=some false:=by
 unfold P0;rw[isf h (hk _ (by decide)),isf h (hk _ (by decide)),isf h (hk _ (by decide)),Y6f h (hk _ (by decide))]
 rfl
theorem type_r{t:K6}{ts:List (Aa)}(h:WT t ts){r:Z0}{l':List Y8}(ht:TL r.l ts l')(hn:∃u k,l'=u::k/\Ff u [42]):Hc (U6 r) (Oe fun z=>z.1=t/\z.2.l=l'):=by
 unfold U6
 dsimp only[jn]
 cases h with
 |@base w n hb h=>
  obtain⟨u,k,e1,e2,e3⟩:=ht.one;rw[X0f e1 e2 (.inl h),qV,Bool.not_true,Aj,e1];refine Hc.st (x:=u) rfl (Hc.st (Z3i u k) ?_);rw[e2.tx,c0 (df (fun e=>by rw[e]at h;revert h;decide))];exact star_r hn hb w [] _ e3
 |@strct s n hb h=>
  obtain⟨u,k,e1,e2,e3⟩:=ht.one;obtain⟨u2,k2,e4,e5,e6⟩:=e3.one;rw[X0f e1 e2 (.inr rfl),qV,Bool.not_true,Aj,e1];refine Hc.st (x:=u) rfl (Hc.st (Z3i u k) ?_);rw[e2.tx,c1 (dt (show Q1z=[115,116,114,117,99,116]from rfl))];obtain⟨r2,f1,f2⟩:=Y7l (r:={r with l:=k}) e4 e5 h;refine Hc.st f1 ?_;exact star_r hn hb Q1z s _ (by rw[f2];exact e6)
section
variable{n:Nat}{r:Z0}{l l':List Y8}{t:Y8}
theorem pr_num{m:Int}(h:U32 m)(ht:TL r.l [nu m] l')(p:Pos):Hc ((M1 n).J7 r) (Oe fun z=>EqE ⟨1,p,[],[],m,T0n,[]⟩ z.1/\z.2.l=l'):=by
 obtain⟨t,k,e1,e2,e3⟩:=ht.one;obtain rfl:=e3.emp;have hx:=Y2j h;cases n with
 |zero=>exact Hc.no
 |succ n=>
  show Hc (J3 (M1 n) r) _;unfold J3;refine Hc.sk fun q=>?_
  dsimp only[jn]
  rw[tkf e1 (Y5d e2 hx),tkf e1 (Y5d e2 hx),tkf e1 (Y5d e2 hx)];obtain⟨r1,f1,f2⟩:=X0y e1 (e2.at hx).1;rw[f1,e1,c1 (dt (by simp only[qY];omega))];refine Hc.st (x:=t) rfl ?_;rw[(e2.at hx).1];refine Hc.ok ⟨?_,f2⟩;rw[(e2.at hx).2];exact EqE.nil Fl.nil
theorem X5q{s:Aa}(h:Nm s){Q:An (Z5×Z0)->Prop}(he:∀x,Q (.error x))(ht:TL r.l [s] l')(u:Y8)(k':List Y8)(hu:l'=u::k')
 (h1:Ff u [40] ->∀p r1,r1.l=l'->Q (.ok (⟨2,p,[],s,0,T0n,[]⟩,r1))) (h2:Kt u [40] ->∀m r1,r1.l=l'->Hc ((M1 m).F0 r1) (Oe fun z=>∀p,Q (.ok (⟨7,p,[],s,0,T0n,z.1⟩,z.2)))) (hk:Ff u [40]\/Kt u [40]):Hc ((M1 n).J7 r) Q:=by
 obtain⟨t,k,e1,e2,e3⟩:=ht.one;obtain rfl:=e3.emp;cases n with
 |zero=>exact Hc.no
 |succ n=>
  show Hc (J3 (M1 n) r) _;unfold J3;refine Hc.sk fun q=>?_
  dsimp only[jn]
  rw[tkf e1 (Z8e e2 h),tkf e1 (Z8e e2 h),tkf e1 (Z8e e2 h)];obtain⟨r1,f1,f2⟩:=Y7l e1 e2 h;rw[f1,e1,c1 (dt (by simp only[qY];omega))];refine Hc.st (x:=t) rfl ?_;rw[(e2.at h).1,c0 (show((1:Int)==3)=false from rfl)];refine Hc.st (x:=qX (s,r1)) rfl ?_;show Hc ((X8 r1 [40]).bind _) _
  rcases hk with hf|hk
  . refine Hc.st (Y6f (f2.trans hu) hf) ?_;exact Hc.ok (h1 hf q r1 f2)
  . refine Hc.st (is_m (f2.trans hu) hk) ?_;exact Hc.bx (h2 hk n r1 f2) (fun z hz=>Hc.ok (hz q)) fun x=>Hc.ok (he _)
theorem pr_in(ht:TL r.l [inW,[40],[41]] l')(p:Pos):Hc ((M1 n).J7 r) (Oe fun z=>EqE ⟨7,p,[],inW,0,T0n,[]⟩ z.1/\z.2.l=l'):=by
 obtain⟨t,k,e1,e2,e3⟩:=ht.one;obtain⟨t2,k2,e4,e5,e6⟩:=e3.one;obtain⟨t3,k3,e7,e8,e9⟩:=e6.one;obtain rfl:=e9.emp;cases n with
 |zero=>exact Hc.no
 |succ n=>
  show Hc (J3 (M1 n) r) _;unfold J3;refine Hc.sk fun q=>?_
  dsimp only[jn]
  obtain⟨r1,f1,f2⟩:=Q6r (s:=[105,110]) e1 e2;obtain⟨r2,f3,f4⟩:=Q5f (f2.trans e4) e5;obtain⟨r3,f5,f6⟩:=Q5f (f4.trans e7) e8;rw[tkf e1 (ffd e2),f1,qV,Ak];refine Hc.st f3 (Hc.st f5 ?_);exact Hc.ok ⟨EqE.nil Fl.nil,f6⟩
theorem br_r{x:Z5}{ts:List (Aa)}(h:Ax x ts)(ht:TL r.l ([40]::(ts++[[41]])) l'):Hc ((M1 n).U1 r) (Oe fun z=>Fl EqE [x] z.1/\z.2.l=l'):=by
 obtain⟨t,k,e1,e2,e3⟩:=ht.one;obtain⟨k2,e4,e5⟩:=e3.app;obtain⟨u,k3,rfl,e7,e8⟩:=e5.one;obtain rfl:=e8.emp;cases n with
 |zero=>exact Hc.no
 |succ n=>
  show Hc (P2 (M1 n) r) _;unfold P2;obtain⟨r1,f1,f2⟩:=Q5f e1 e2;refine Hc.st f1 ?_;refine Hc.bx (h n r1 _ (by rw[f2];exact e4) ⟨u,k3,rfl,e7.f4,by rw[e7.tx];decide⟩) fun z hz=>?_;exact Hc.bx (mq hz e7.tx (e7.f4) (by decide)) fun r2 h2=>Hc.ok ⟨Fl.one h2.1,h2.2⟩
theorem pr_out{x:Z5}{ts:List (Aa)}(h:Ax x ts)(ht:TL r.l (Y6b::[40]::(ts++[[41]])) l')(p:Pos):Hc ((M1 n).J7 r) (Oe fun z=>EqE ⟨7,p,[],Y6b,0,T0n,[x]⟩ z.1/\z.2.l=l'):=by
 obtain⟨t,k,e1,e2,e3⟩:=ht.one;cases n with
 |zero=>exact Hc.no
 |succ n=>
  show Hc (J3 (M1 n) r) _;unfold J3;refine Hc.sk fun q=>?_
  dsimp only[jn]
  obtain⟨r1,f1,f2⟩:=Q6r (s:=[111,117,116]) e1 e2;rw[tkf e1 (ffd e2),tkf e1 (ffd e2),f1,qV,Ak];exact Hc.bx (br_r h (r:=r1) (by rw[f2];exact e3)) fun z hz=>Hc.ok ⟨EqE.nil hz.1,hz.2⟩
end
theorem TL.join{ts us:List (Aa)}{l m k:List Y8}(h:TL l ts m)(g:TL m us k):TL l (ts++us) k:=by
 induction h with
 |nil=>exact g
 |cons h _ ih=>exact .cons h (ih g)
abbrev Ws(l:List (Z5×List (Aa))):List (Aa):=(l.map fun q=>[44]::q.2).flatten
theorem Y3u(q:Z5×List (Aa))(ps:List (Z5×List (Aa))):sep ((q::ps).map (·.2))=q.2++Ws ps:=by
 simp only[sep,pre,List.map_cons,List.flatten_cons,Ws,List.map_map]
 rfl
theorem list_r{S R Z:Type}{G:Z1q}{Q:Z->Prop}{l':List Y8}{c:Y8}{body:S->Option (Lp S (An R))}{K:Lp S (An R)->Option Z}(f:S->List Z5)(rd:S->Z0)(mk:S->Z5×Z0->S)(st:S->Z0->S)(rm:S->Z5×Z0->Option Unit)(J:S->Prop)
 (hc:c.Kind=4/\c.Text∈Z9f/\c.Text≠[44]) (hm:∀s z,f (mk s z)=f s++[z.1]/\rd (mk s z)=z.2/\st s (rd s)=s/\(J s->J (mk s z)))
 (hb:∀s,J s->body s=(Y6 (rd s) ([44]:Aa)).bind fun y4=>bif y4.1 then((G.X3 y4.2).bind fun y5=>exL y5 (fun y5=>(rm s y5).bind fun _=>some (Lp.go (mk s y5))))else(some (Lp.brk (st s y4.2))))
 (n:Nat) (s:S) (done ps:List (Z5×List (Aa))) (hj:J s) (hE:∀q∈ps,∀(r:Z0) l',TL r.l q.2 l'->Hdm Z9f l'->Hc (G.X3 r) (EP (Qx q.1 l')))
 (h1:Fl EqE (done.map (·.1)) (f s)/\TL (rd s).l (Ws ps) (c::l')\/Hdm Z2o (rd s).l) (he:∀e,Hc (K (.ret (.error e))) Q)
 (hX:∀s,J s->Fl EqE ((done++ps).map (·.1)) (f s)/\(rd s).l=c::l'\/Hdm Z2o (rd s).l->Hc (K (.brk s)) Q):Hc ((loopM body n s).bind K) Q:=by
 refine Hc.lp (fun s=>J s/\∃done ps',(∀q∈ps',∀(r:Z0) l',TL r.l q.2 l'->Hdm Z9f l'->Hc (G.X3 r) (EP (Qx q.1 l')))/\(Fl EqE (done.map (·.1)) (f s)/\TL (rd s).l (Ws ps') (c::l')\/Hdm Z2o (rd s).l)/\(∀s,J s->Fl EqE ((done++ps').map (·.1)) (f s)/\(rd s).l=c::l'\/Hdm Z2o (rd s).l->Hc (K (.brk s)) Q)) ?_ n s ⟨hj,done,ps,hE,h1,hX⟩;rintro s ⟨hj,done,ps,hE,h1,hX⟩;rw[hb s hj]
 rcases h1 with⟨h1,h2⟩|⟨t,k,h1,h2,h3⟩
 . cases ps with
   |nil=>
    have e:(rd s).l=c::l':=h2.emp;rw[Q7m e (.inl hc.2.2)];refine Hc.ok ?_;show Hc (K (.brk (st s (rd s)))) Q;rw[(hm s (⟨0,⟨0,0⟩,[],[],0,T0n,[]⟩,rd s)).2.2.1];exact hX s hj (.inl ⟨by rw[jK];exact h1,e⟩)
   |cons q ps=>
    obtain⟨t,k,e1,e2,e3⟩:=TL.one (s:=[44]) (ts:=q.2++Ws ps) (by simpa[Ws]using h2);obtain⟨k2,e4,e5⟩:=e3.app;obtain⟨r1,f1,f2⟩:=Q6r e1 e2;rw[f1]
    have hk2:Hdm Z9f k2:=by
     cases ps with
     |nil=>rw[show k2=c::l' from e5.emp];exact⟨c,l',rfl,hc.1,hc.2.1⟩
     |cons q2 ps=>
      obtain⟨u,v,g1,g2,g3⟩:=TL.one (s:=[44]) (ts:=q2.2++Ws ps) (by simpa[Ws]using e5);exact⟨u,v,g1,g2.f4,by rw[g2.tx];decide⟩
    refine Hc.bx (hE q (by simp) r1 k2 (by rw[f2];exact e4) hk2) (fun z hz=>Hc.sk fun _=>Hc.ok ⟨(hm s z).2.2.2 hj,done++[q],ps,fun q hq=>hE q (by simp[hq]),?_,fun s j h=>hX s j (by rw[qS]at h;exact h)⟩) fun x=>Hc.ok (he _);rw[(hm s z).1,(hm s z).2.1]
    rcases hz with⟨g1,g2⟩|g
    . refine .inl ⟨?_,by rw[g2];exact e5⟩;rw[jC];exact h1.app (Fl.one g1)
    . exact .inr g
 . rw[Q7m h1 (.inl fun e=>by rw[e]at h3;revert h3;decide)];refine Hc.ok ?_;show Hc (K (.brk (st s (rd s)))) Q;rw[(hm s (⟨0,⟨0,0⟩,[],[],0,T0n,[]⟩,rd s)).2.2.1];exact hX s hj (.inr ⟨t,k,h1,h2,h3⟩)
theorem mbd{r:Z0}{m:Aa}(h:Hdm Z2o r.l)(hm:m∉Z2o):Hc (Y7 r m) (Oe fun _=>False):=by
 obtain⟨t,k,h1,h2,h3⟩:=h;exact must_f h1 (.inl fun e=>hm (e▸h3))
theorem handed_r{n:Nat}{r:Z0}{l':List Y8}{ps:List (Z5×List (Aa))}(hp:∀q∈ps,WE q.1 q.2)(hE:∀q∈ps,Ax q.1 q.2)(ht:TL r.l ([40]::(sep (ps.map (·.2))++[[41]])) l'):Hc ((M1 n).F0 r) (Oe fun z=>Fl EqE (ps.map (·.1)) z.1/\z.2.l=l'):=by
 obtain⟨t,k,e1,e2,e3⟩:=ht.one;cases n with
 |zero=>exact Hc.no
 |succ n=>
  show Hc (C6 (M1 n) r) _;unfold C6;obtain⟨r1,f1,f2⟩:=Q5f e1 e2;refine Hc.st f1 ?_;show Hc ((Y6 r1 [41]).bind _) _;cases ps with
  |nil=>
   obtain⟨u,k2,e4,e5,e6⟩:=TL.one (s:=[41]) (ts:=[]) (by simpa[sep,pre]using e3);obtain⟨r2,f3,f4⟩:=Q6r (f2.trans e4) e5;refine Hc.st f3 ?_;exact Hc.ok ⟨Fl.nil,f4.trans e6.emp⟩
  |cons q ps=>
   rw[Y3u]at e3;obtain⟨s,us,hs,hh⟩:=(hp q (by simp)).fst;obtain⟨k2,e4,e5⟩:=e3.app;obtain⟨k3,e6,e7⟩:=e4.app;obtain⟨c,k4,rfl,e8,e9⟩:=e5.one;obtain rfl:=e9.emp
   have hfst:∃u v,k=u::v/\Kt u s:=by
    rw[hs]at e6;obtain⟨u,v,g1,g2,_⟩:=e6.one;exact⟨u,v,g1,g2⟩
   obtain⟨u,v,rfl,g2⟩:=hfst;refine Hc.st (Q7m f2 (hh.ff g2 (by decide))) ?_;rw[Aj];have hc:c.Kind=4/\c.Text∈Z9f/\c.Text≠[44]:=⟨e8.f4,by rw[e8.tx];decide,by rw[e8.tx];decide⟩
   have hk3:Hdm Z9f k3:=by
    cases ps with
    |nil=>rw[show k3=c::k4 from e7.emp];exact⟨c,k4,rfl,hc.1,hc.2.1⟩
    |cons q2 ps=>
     obtain⟨u,v,g1,g2,g3⟩:=TL.one (s:=[44]) (ts:=q2.2++Ws ps) (by simpa[Ws]using e7);exact⟨u,v,g1,g2.f4,by rw[g2.tx];decide⟩
   refine Hc.bx (hE q (by simp) n r1 k3 (by rw[f2];exact e6) hk3) fun z hz=>?_;refine list_r (G:=M1 n) (l':=k4) (·.1) (·.2) (fun s z=>(s.1++[z.1],z.2)) (fun s r=>(s.1,r)) _ (fun _=>True) hc (fun s z=>⟨rfl,rfl,rfl,id⟩) (fun s _=>rfl) NN _ [q] ps trivial (fun q hq r l' h1 h2=>hE q (by simp[hq]) n r l' h1 h2) ?_ (fun e=>Hc.ok trivial) fun s _ h=>?_
   . rcases hz with⟨g1,g2⟩|g
     . exact .inl ⟨Fl.one g1,by dsimp only;rw[g2];exact e7⟩
     . exact .inr g
   . obtain⟨a,r⟩:=s;show Hc ((Y7 r [41]).bind _) _
     rcases h with⟨h1,h2⟩|h
     . obtain⟨r2,f3,f4⟩:=Y5a h2 e8.tx (.inr hc.1);refine Hc.st f3 ?_;exact Hc.ok ⟨h1,f4⟩
     . exact Hc.bx (mbd h (by decide)) fun _ h=>h.elim
def Bk(x:Z5)(ts:List (Aa)):Prop:=Ax x ts/\Uq x (opd x.Kind ts)
theorem Bk.s{x:Z5}{ts:List (Aa)}(h:Uq x ts)(e:opd x.Kind ts=ts):Bk x ts:=⟨h.ax,by rw[e];exact h⟩
theorem Bk.c{x:Z5}{ts:List (Aa)}(h:Ax x ts)(e:opd x.Kind ts=[40]::(ts++[[41]])):Bk x ts:=⟨h,by rw[e];exact uq_paren h⟩
theorem back{x:Z5}{ts:List (Aa)}(h:WE x ts):Bk x ts:=by
 induction h with
 |@num p m h=>exact Bk.s (Z6m (fun t ht=>⟨.inl (by rw[(ht.at (Y2j h)).1];decide),Y5d ht (Y2j h)⟩) fun n r l' ht h4=>pr_num h ht p) rfl
 |@name p s h=>
  refine Bk.s (Z6m (fun t ht=>⟨.inl (by rw[(ht.at h).1];decide),Z8e ht h⟩) fun n r l' ht h4=>?_) rfl;obtain⟨u,k,e1,e2,e3⟩:=h4;exact X5q h (fun _=>trivial) ht u k e1 (fun _ q r1 h1=>⟨EqE.nil Fl.nil,h1⟩) (fun hk=>absurd hk.tx e3) (.inl (.inl e3))
 |@una p o x ts h k ih=>
  refine Bk.c (fun n r l' ht hc=>up_u (fun m r1 h1=>?_) hc) rfl;rw[<-h1]at ht;obtain⟨t,k2,e1,e2,e3⟩:=ht.one;refine un_una e1 (e2.four ((by decide:∀s∈unaO,s∈Q0f) _ h)) (by rw[e2.tx];exact h) fun m r2 q h2=>?_;refine(ih.2.v (by rw[h2];exact e3) hc.n4).oe fun z hz=>?_
  rcases hz with⟨g1,g2⟩|g
  . exact .inl ⟨by rw[e2.tx];exact EqE.nil (Fl.one g1),g2⟩
  . exact .inr g
 |@pp p o x ts h k ih=>
  refine Bk.c (fun n r l' ht hc=>up_u (fun m r1 h1=>?_) hc) rfl;rw[<-h1]at ht;obtain⟨t,k2,e1,e2,e3⟩:=ht.one;refine un_pp e1 (e2.four ((by decide:∀s∈ppO,s∈Q0f) _ h)) (by rw[e2.tx];exact h) fun m r2 q h2=>?_;refine(ih.2.v (by rw[h2];exact e3) hc.n4).oe fun z hz=>?_
  rcases hz with⟨g1,g2⟩|g
  . exact .inl ⟨by rw[e2.tx];exact EqE.nil (Fl.one g1),g2⟩
  . exact .inr g
 |@bin p o x y ts us h k j ih ij=>
  refine Bk.c (fun n r l' ht hc=>as_up (fun m r1 h1=>co_up (fun m=>?_) (hc.m fun s hs=>(Q9f s hs).2.1)) (hc.m fun s hs=>(Q9f s hs).2.2.1)) rfl;rw[<-h1]at ht;obtain⟨f1,f2,f3,f4,f5⟩:=Y9x _ h;obtain⟨k2,e1,e2⟩:=ht.app;obtain⟨t,k3,rfl,e4,e5⟩:=e2.one;have h4:=e4.four f5;refine bi_any (fun _=>trivial) (fun m=>ih.2.v e1 ⟨t,k3,rfl,h4,by rw[e4.tx];exact⟨f3,f4⟩⟩) fun m z hz=>?_
  rcases hz with⟨g1,g2⟩|g
  . refine bin_step g2 h4 (by rw[e4.tx];exact h) (fun _=>trivial) fun q r2 k0 h2=>?_;refine(X3n (fun m=>ij.2.v (by rw[h2];exact e5) hc.n4) (hc.m fun s hs=>(Q9f s hs).1)).oe fun z2 hz2=>?_;rw[X1m (hz2.head (hc.m fun s hs=>(Q9f s hs).1) fun s hs=>(Z0z s hs).1)];refine Hc.ok ?_
    rcases hz2 with⟨g3,g4⟩|g
    . exact .inl ⟨by rw[e4.tx];exact EqE.nil (Fl.cons g1 (Fl.one g3)),g4⟩
    . exact .inr g
  . rw[X1m (g.m fun s hs=>(Z0z s hs).1)];exact Hc.ok (.inr g)
 |@asg p o x y ts us h k j ih ij=>
  refine Bk.c (fun n r l' ht hc=>?_) rfl;obtain⟨f1,f2,f3,f4,f5,f6⟩:=X7p _ h;obtain⟨k2,e1,e2⟩:=ht.app;obtain⟨t,k3,rfl,e4,e5⟩:=e2.one;have h4:=e4.four f6;have hm:∀F:Aa->Prop,F o->Hm F (t::k3):=fun F hF=>⟨t,k3,rfl,h4,by rw[e4.tx];exact hF⟩;cases n with
  |zero=>exact Hc.no
  |succ n=>
   show Hc (B9 (M1 n) r) _;unfold B9;refine Hc.bx Q8l fun r1 h1=>?_;rw[<-h1]at e1;refine Hc.bx (co_up (fun m=>X3n (fun m=>ih.2.v e1 ⟨t,k3,rfl,h4,by rw[e4.tx];exact⟨f4,f5⟩⟩) (hm _ f1)) (hm _ f2)) fun z hz=>?_
   dsimp only
   rcases hz with⟨g1,g2⟩|g
   . obtain⟨q,r2,o1,o2⟩:=Z7w g2 h4 5;rw[Z1a g2 h4,qV,e4.tx,f3,qV];refine Hc.st o1 ?_;refine Hc.bx (ij.2.ax n r2 l' (by rw[o2];exact e5) hc) fun z2 hz2=>Hc.ok ?_
     rcases hz2 with⟨g3,g4⟩|g
     . exact .inl ⟨by rw[e4.tx];exact EqE.nil (Fl.cons g1 (Fl.one g3)),g4⟩
     . exact .inr g
   . obtain⟨u,v,g1,g2,g3⟩:=g;rw[Z1a g1 g2,qV,(Z0z _ g3).2.2];exact Hc.ok (.inr ⟨u,v,g1,g2,g3⟩)
 |@cond p x y z ts us vs k j i ih ij ii=>
  refine Bk.c (fun n r l' ht hc=>as_up (fun m r1 h1=>?_) (hc.m fun s hs=>(Q9f s hs).2.2.1)) rfl;rw[<-h1]at ht;obtain⟨k2,e1,e2⟩:=ht.app;obtain⟨t,k3,rfl,e4,e5⟩:=e2.one;obtain⟨k4,e6,e7⟩:=e5.app;obtain⟨u,k5,rfl,e8,e9⟩:=e7.one;have h4:=e4.f4;have h5:=e8.f4;cases m with
  |zero=>exact Hc.no
  |succ n=>
   show Hc (M2 (M1 n) r1) _;unfold M2;refine Hc.bx (X3n (fun m=>ih.2.v e1 ⟨t,k3,rfl,h4,by rw[e4.tx];decide⟩) ⟨t,k3,rfl,h4,by rw[e4.tx];rfl⟩) fun z hz=>?_
   dsimp only
   rcases hz with⟨g1,g2⟩|g
   . obtain⟨q,r2,o1,o2⟩:=Z7w g2 h4 6;rw[Z1a g2 h4,qV,dt e4.tx,Bool.not_true,Aj];refine Hc.st o1 ?_;refine Hc.bx (ij.2.ax n r2 (u::k5) (by rw[o2];exact e6) ⟨u,k5,rfl,h5,by rw[e8.tx];decide⟩) fun z2 hz2=>?_;refine Hc.bx (mq hz2 e8.tx h5 (by decide)) fun r3 h3=>?_;refine Hc.bx Q8l fun r4 h6=>?_;refine Hc.bx (co_up (fun m=>X3n (fun m=>ii.2.v (by rw[h6,h3.2];exact e9) hc.n4) (hc.m fun s hs=>(Q9f s hs).1)) (hc.m fun s hs=>(Q9f s hs).2.1)) fun z3 hz3=>?_;refine Hc.ok ?_
     rcases hz3 with⟨g3,g4⟩|g
     . exact .inl ⟨EqE.nil (Fl.cons g1 (Fl.cons h3.1 (Fl.one g3))),g4⟩
     . exact .inr g
   . obtain⟨u,v,g1,g2,g3⟩:=g;rw[Z1a g1 g2,qV,df (Z0z _ g3).2.1];exact Hc.ok (.inr ⟨u,v,g1,g2,g3⟩)
 |@inp p=>exact Bk.s (Z6m (fun t ht=>⟨.inl (by rw[ht.t2];decide),ffd ht⟩) fun n r l' ht h4=>pr_in ht p) rfl
 |@out p x ts k ih=>exact Bk.s (Z6m (fun t ht=>⟨.inl (by rw[ht.t2];decide),ffd ht⟩) fun n r l' ht h4=>pr_out ih.1 ht p) rfl
 |@call p s ps h k ih=>
  refine Bk.s (Z6m (fun t ht=>⟨.inl (by rw[(ht.at h).1];decide),Z8e ht h⟩) fun n r l' ht h4=>?_) rfl;obtain⟨m,e1,e2⟩:=TL.app (ts:=[s]) ht;obtain⟨u,k2,rfl,e4,e5⟩:=e2.one;exact X5q h (fun _=>trivial) e1 u k2 rfl (fun hf=>by rcases hf with hf|hf;exact absurd e4.tx hf;exact absurd (e4.f4) hf.2) (fun _ m r1 h1=>(handed_r k (fun q hq=>(ih q hq).1) (by rw[h1];exact e2)).oe fun z hz q=>⟨EqE.nil hz.1,hz.2⟩) (.inr e4)
 |@idx p x y ts us k j ih ij=>
  refine Bk.s (fun n r l' P ht h4 k1 k2=>?_) rfl;obtain⟨m1,e1,e2⟩:=ht.app;obtain⟨t,m2,rfl,e4,e5⟩:=e2.one;obtain⟨m3,e6,e7⟩:=e5.app;obtain⟨u,m4,rfl,e8,e9⟩:=e7.one;obtain rfl:=e9.emp;refine ih.2 n r _ P e1 ⟨t,m2,rfl,e4.f4,by rw[e4.tx];decide⟩ (fun m x' r' g1 g2=>?_) k2;refine post_idx g2 (e4.f4) e4.tx (fun _=>trivial) fun q r1 h1=>?_;refine(ij.1 m r1 (u::m4) (by rw[h1];exact e6) ⟨u,m4,rfl,e8.f4,by rw[e8.tx];decide⟩).oe fun z hz=>?_;exact(mq hz e8.tx (e8.f4) (by decide)).oe fun r2 h2=>k1 m _ r2 (EqE.nil (Fl.cons g1 (Fl.one h2.1))) h2.2
 |@mem p o s x ts h hs k ih=>
  refine Bk.s (fun n r l' P ht h4 k1 k2=>?_) rfl;obtain⟨m1,e1,e2⟩:=ht.app;obtain⟨t,m2,rfl,e4,e5⟩:=e2.one;obtain⟨u,m3,rfl,e8,e9⟩:=e5.one;obtain rfl:=e9.emp;have ho:=e4.four ((by decide:∀s∈mbO,s∈Q0f) _ h);refine ih.2 n r _ P e1 ⟨t,_,rfl,ho,by rw[e4.tx];exact(by decide:∀s∈mbO,s≠[40]) _ h⟩ (fun m x' r' g1 g2=>?_) k2;exact post_mem g2 ho (by rw[e4.tx];exact h) e8 hs (fun _=>trivial) fun q r1 h1=>k1 m _ r1 (by rw[e4.tx];exact EqE.nil (Fl.one g1)) h1
 |@post p o x ts h k ih=>
  refine Bk.c (fun n r l' ht hc=>up_u (fun m r1 h1=>?_) hc) rfl;rw[<-h1]at ht;obtain⟨m1,e1,e2⟩:=ht.app;obtain⟨t,m2,rfl,e4,e5⟩:=e2.one;obtain rfl:=e5.emp;have ho:=e4.four ((by decide:∀s∈ppO,s∈Q0f) _ h);refine ih.2 m r1 _ _ e1 ⟨t,_,rfl,ho,by rw[e4.tx];exact(by decide:∀s∈ppO,s≠[40]) _ h⟩ (fun m x' r' g1 g2=>?_) fun y k h=> .inr h;refine post_pp g2 ho (by rw[e4.tx];exact h) (fun _=>trivial) fun q r2 h2=>?_;rw[Y7i (by rw[h2];exact hc.n4)];exact Hc.ok (.inl ⟨by rw[e4.tx];exact EqE.nil (Fl.one g1),h2⟩)
 |@size p t ts h=>
  refine Bk.s (fun n r l' P ht h4 k1 k2=>?_) rfl;obtain⟨t0,m1,e1,e2,e3⟩:=ht.one;obtain⟨t1,m2,rfl,e4,e5⟩:=e3.one;obtain⟨m3,e6,e7⟩:=e5.app;obtain⟨u,m4,rfl,e8,e9⟩:=e7.one;obtain rfl:=e9.emp;cases n with
  |zero=>exact Hc.no
  |succ n=>
   show Hc (G9 (M1 n) r) _;unfold G9;refine Hc.bx Q8l (fun r1 h1=>?_);have w2:t0.Kind=2:=e2.t2;obtain⟨r2,f1,f2⟩:=Z4u (h1.trans e1) e2.tx (.inl w2);obtain⟨r3,f3,f4⟩:=Q5f f2 e4
   dsimp only[jn]
   have hs:Y9c=[115,105,122,101,111,102]:=rfl;rw[hs]at f1;rw[mark_n (h1.trans e1) (by rw[w2];decide),qV];refine Hc.sk fun q=>Hc.st f1 (Hc.st f3 ?_);refine Hc.bx (type_r h (by rw[f4];exact e6) ⟨u,m4,rfl,ffd e8⟩) fun z hz=>?_;obtain⟨r4,f5,f6⟩:=Q5f hz.2 e8;refine Hc.st f5 (Hc.ok ?_);show P ⟨12,q,[],[],0,z.1,[]⟩ r4.l;rw[hz.1,f6];obtain⟨v,w,g1,g2,g3⟩:=h4
   by_cases hv:v.Text∈Z2o
   . exact k2 _ _ ⟨v,w,g1,g2,hv⟩
   . have:=k1 0 ⟨12,q,[],[],0,t,[]⟩ r4 (EqE.nil Fl.nil) f6;rw[Y7i (by rw[f6];exact⟨v,w,g1,g2,g3,hv⟩)]at this;have:=this _ rfl;rw[<-f6];exact this
def Y1g(ds:List Int):List (Aa):=(ds.map fun d=>[[91],nu d,[93]]).flatten
def iniT(b:Bool)(ps:List (Z5×List (Aa))):List (Aa):=if ps.length=0 then[]else[61]::(bif b then[123]::(sep (ps.map (·.2))++[[125]])else sep (ps.map (·.2)))
inductive WV:J2->List (Aa)->Prop
 |mk {p:Pos} {t:K6} {tt:List (Aa)} {s:Aa} {ds:List Int} {b:Bool} {ps:List (Z5×List (Aa))} (ht:WT t tt) (hs:Nm s) (hd:∀d∈ds,U32 d) (hi:∀q∈ps,WE q.1 q.2) (hb:b=false->ps.length<=1) (hc:b=true->1<=ps.length):
  WV ⟨p,t,s,ds,ps.map (·.1),b⟩ (tt++s::(Y1g ds++iniT b ps))
theorem NN1:∃n,NN=n+1/\9223372036854775807<=n:=⟨NN-1,by unfold NN;omega,by unfold NN;omega⟩
theorem Z6u{ps:List (Z5×List (Aa))}(hb:sm wE (ps.map (·.1))<=1000000)(h:∀q∈ps,WE q.1 q.2):Wx (fun w=>E2 w (ps.map (·.1))) (sep (ps.map (·.2))):=by
 obtain⟨n,hn,hn2⟩:=NN1;unfold E2;rw[hn];have hl:=Q1u Q3k (ps.map (·.1));rw[List.length_map]at hl;exact X0v (by omega) fun q hq=>by have:=sm_map hq;exact expr_w (h q hq) (by omega) n (by omega)
theorem dims_w{ds:List Int}(hd:∀d∈ds,U32 d)(hb:ds.length<=1000000){Z R:Type}{body:Int×Z8->Option (Lp (Int×Z8) R)}{K:Lp (Int×Z8) R->Option Z}{X:Option Z}(w:Z8)(hw:w.l.length+(Y1g ds).length<=100000000)
 (hs:∀s,body s=bif decide (s.1<(qQ ds:Int))then((idx ds s.1).bind fun u1=>(Y5 s.2 ([([91]:Aa)]:List (Aa))).bind fun y3=>(Q0c y3 u1).bind fun y4=>(Y5 y4 ([([93]:Aa)]:List (Aa))).bind fun y5=>some (Lp.go (qJ .i64 (s.1+1),y5)))else(some (Lp.brk (s.1,s.2)))) (hX:K (.brk ((ds.length:Int),⟨w.l++Y1g ds⟩))=X):(loopM body NN ((0:Int),w)).bind K=X:=by
 refine Z9v ds (ds.map fun d=>[[91],nu d,[93]]) (by simp) (by omega) w hw (fun k hk h2 v hv=>?_) (fun v=>by rw[hs];dsimp only;rw[c0 (dge _)]) hX;rw[hs]
 dsimp only
 simp only[List.getElem_map,qY,jF]at hv⊢
 have e:=Y7k (hd _ (jT hk)) ⟨v.l++[[91]]⟩ (by simp;omega)
 dsimp only at e
 rw[c1 (dlt hk),E8 hk,qV,Q7c (by simp;omega),qV,e,qV,Q7c (by simp;omega)]
 simp
theorem Z7j{v:J2}{ts:List (Aa)}(h:WV v ts)(hb:sm wE v.Init<=1000000)(hd:v.Dims.length<=1000000):Wx (fun w=>C4 w v) ts:=by
 cases h with
 |@mk p t tt s ds b ps ht hs hds hi hbr hc=>
  intro w hw
  simp only[qW,qY]at hw
  have e1:=X3z ht w (by omega)
  dsimp only at e1 hb hd⊢
  unfold C4
  dsimp only
  rw[e1,qV,Q7c (by simp;omega),qV];refine dims_w hds hd _ (by simp;omega) (fun s=>rfl) ?_
  dsimp only[Lp.thn]
  unfold iniT at hw⊢;rw[List.length_map]
  by_cases hp:ps.length=0
  . rw[if_pos hp]at hw⊢;rw[c1 (by rw[hp];rfl)]
    simp
  . rw[if_neg hp]at hw⊢;rw[c0 (beq_eq_false_iff_ne.2 (by omega))];have el:=Z6u hb hi;cases b with
    |false=>
     simp only[Aj,qY]at hw
     rw[Q7c (by simp;omega),qV]
     simp only[jn,Aj]
     have:=el ⟨w.l++tt++[s]++Y1g ds++[[61]]⟩ (by simp;omega)
     dsimp only at this
     rw[this]
     simp
    |true=>
     simp only[Ak,qY,qW,jF]at hw
     rw[Q7c (by simp;omega),qV]
     simp only[jn,Ak]
     rw[Q7c (by simp;omega),qV];have:=el ⟨w.l++tt++[s]++Y1g ds++[[61]]++[[123]]⟩ (by simp;omega)
     dsimp only at this
     rw[this,qV,Q7c (by simp;omega)]
     simp
theorem sepl{ps:List (Z5×List (Aa))}(h:∀q∈ps,WE q.1 q.2):(sep (ps.map (·.2))).length+2*ps.length<=12*sm wE (ps.map (·.1)):=X5l fun q hq=>(h q hq).len
theorem dimT_len(ds:List Int):(Y1g ds).length=3*ds.length:=by
 unfold Y1g
 induction ds with
 |nil=>rfl
 |cons d ds ih=>simp only[List.map_cons,List.flatten_cons,qW,qY,jF]at ih⊢;omega
theorem WV.len{v:J2}{ts:List (Aa)}(h:WV v ts):ts.length+2<=12*wV v:=by
 cases h with
 |@mk p t tt s ds b ps ht hs hds hi hbr hc=>
  have h1:=ht.len;have h2:=sepl hi;unfold wV iniT
  dsimp only
  simp only[qW,qY,dimT_len]
  split
  . simp;omega
  . cases b<;>simp only[Ak,Aj,qY,qW,jF]<;>omega
theorem WT.fst{t:K6}{ts:List (Aa)}(h:WT t ts):∃s us,ts=s::us/\(s∈Z3z\/s=Q1z):=by
 cases h with
 |base hn h=>exact⟨_,_,rfl,.inl h⟩
 |strct hn h=>exact⟨_,_,rfl,.inr rfl⟩
theorem X4t{ds:List Int}(hd:∀d∈ds,U32 d){r:Z0}{l':List Y8}(ht:TL r.l (Y1g ds) l')(hn:∃u k,l'=u::k/\Ff u [91]):Hc (W0 r) (Oe fun z=>z.1=ds/\z.2.l=l'):=by
 obtain⟨lu,lk,hlu,hlf⟩:=hn;unfold W0;refine Hc.lp (fun s=>∃a b,a++b=ds/\s.1=a/\TL s.2.l (Y1g b) l') ?_ NN _ ⟨[],ds,rfl,rfl,ht⟩;rintro⟨x,r⟩ ⟨a,b,hab,h1,h2⟩
 dsimp only at h1 h2⊢
 subst h1;cases b with
 |nil=>
  have e:r.l=l':=h2.emp;rw[Q7m (e.trans hlu) hlf];rw[jK]at hab;exact Hc.ok (Hc.ok ⟨hab,e⟩)
 |cons d b=>
  obtain⟨t,k,e1,e2,e3⟩:=TL.one (s:=[91]) (ts:=nu d::[93]::Y1g b) (by simpa[Y1g]using h2);obtain⟨t2,k2,rfl,e4,e5⟩:=e3.one;obtain⟨t3,k3,rfl,e6,e7⟩:=e5.one;have hx:=e4.at (Y2j (hd d (by rw[<-hab];simp)));obtain⟨r1,f1,f2⟩:=Q6r e1 e2;obtain⟨r2,f3,f4⟩:=X0y f2 hx.1;obtain⟨r3,f5,f6⟩:=Q5f f4 e6;rw[f1,qV,Ak];refine Hc.st f3 (Hc.sk fun _=>Hc.st f5 ?_);refine Hc.ok ⟨x++[d],b,by rw[qS];exact hab,?_,by rw[f6];exact e7⟩
  dsimp only
  rw[hx.2]
theorem Z5k{q:Z5×List (Aa)}(h:WE q.1 q.2)(r:Z0)(l':List Y8)(h1:TL r.l q.2 l')(h2:Hdm Z9f l'):Hc ((M1 NN).X3 r) (EP (Qx q.1 l')):=(back h).1 NN r l' h1 h2
theorem X3p{ds:List Int}{b:Bool}{ps:List (Z5×List (Aa))}(hd:∀d∈ds,U32 d)(hi:∀q∈ps,WE q.1 q.2)(hb:b=false->ps.length<=1)(hc:b=true->1<=ps.length){p:Pos}{t:K6}{s:Aa}{r:Z0}{l':List Y8}(ht:TL r.l (Y1g ds++iniT b ps++[[59]]) l'):
 Hc (B5 r ⟨p,t,s,[],[],false⟩) (Oe fun z=>EqV ⟨p,t,s,ds,ps.map (·.1),b⟩ z.1/\z.2.l=l'):=by
 obtain⟨k1,e1,e2⟩:=ht.app;obtain⟨k2,e3,e4⟩:=e1.app;obtain⟨c,k3,rfl,e5,e6⟩:=e2.one;obtain rfl:=e6.emp;have hc4:c.Kind=4:=e5.f4;unfold B5;unfold iniT at e4
 by_cases hp:ps.length=0
 . rw[if_pos hp]at e4;have e7:=e4.emp;subst e7;obtain rfl:ps=[]:=List.length_eq_zero_iff.1 hp
   have hbf:b=false:=by cases b with
    |false=>rfl
    |true=>have:=hc rfl;simp at this
   subst hbf;refine Hc.bx (X4t hd e3 ⟨c,k3,rfl,ffd e5⟩) fun z hz=>?_
   dsimp only[jn]
   rw[Q7m hz.2 (ffd e5),qV,Aj];obtain⟨r2,f1,f2⟩:=Y5a hz.2 e5.tx (.inr hc4);refine Hc.st f1 (Hc.ok ⟨⟨rfl,rfl,hz.1.symm,rfl,Fl.nil⟩,f2⟩)
 . rw[if_neg hp]at e4;obtain⟨c2,k4,rfl,e7,e8⟩:=e4.one
   obtain⟨q,ps,rfl⟩:∃q p,ps=q::p:=by cases ps with
    |nil=>exact absurd rfl hp
    |cons q p=>exact⟨q,p,rfl⟩
   refine Hc.bx (X4t hd e3 ⟨c2,k4,rfl,ffd e7⟩) fun z hz=>?_;obtain⟨zd,zr'⟩:=z;obtain⟨hz1,hz2⟩:=hz
   dsimp only at hz1 hz2
   subst hz1
   dsimp only[jn]
   obtain⟨r2,f1,f2⟩:=Q6r hz2 e7;rw[f1,qV,Ak];obtain⟨s1,us,hs1,hh⟩:=(hi q (by simp)).fst;cases b with
   |false=>
    have hb1:=hb rfl
    simp only[qY]at hb1
    obtain rfl:ps=[]:=List.length_eq_zero_iff.1 (by omega);rw[Aj,Y3u,show Ws []=[]from rfl,jK]at e8
    have hfst:∃u v,k4=u::v/\Kt u s1:=by
     rw[hs1]at e8;obtain⟨u,v,g1,g2,_⟩:=e8.one;exact⟨u,v,g1,g2⟩
    obtain⟨u,v,rfl,g2⟩:=hfst;rw[Q7m f2 (hh.ff g2 (by decide)),qV];refine Hc.bx (Z5k (hi q (by simp)) r2 (c::k3) (by rw[f2];exact e8) ⟨c,k3,rfl,hc4,by rw[e5.tx];decide⟩) fun z hz=>?_;refine Hc.sk fun _=>Hc.l1 ?_;refine Hc.ok ?_;refine Hc.bx (mq (m:=[59]) hz e5.tx hc4 (by decide)) fun r3 h3=>Hc.ok ⟨⟨rfl,rfl,rfl,rfl,Fl.one h3.1⟩,h3.2⟩
   |true=>
    rw[Ak,Y3u]at e8;obtain⟨c3,k5,rfl,e9,e10⟩:=e8.one;obtain⟨k6,e11,e12⟩:=e10.app;obtain⟨k7,e13,e14⟩:=e11.app;obtain⟨c4,k8,rfl,e15,e16⟩:=e12.one;have e17:=e16.emp;obtain rfl:k8=c::k3:=e17;obtain⟨r3,f3,f4⟩:=Q6r f2 e9;rw[f3,qV];have h15:c4.Kind=4:=e15.f4;have hcc:c4.Kind=4/\c4.Text∈Z9f/\c4.Text≠[44]:=⟨h15,by rw[e15.tx];decide,by rw[e15.tx];decide⟩
    have hk7:Hdm Z9f k7:=by
     cases ps with
     |nil=>rw[show k7=c4::c::k3 from e14.emp];exact⟨_,_,rfl,hcc.1,hcc.2.1⟩
     |cons q2 ps=>
      obtain⟨u,v,g1,g2,g3⟩:=TL.one (s:=[44]) (ts:=q2.2++Ws ps) (by simpa[Ws]using e14);exact⟨u,v,g1,g2.f4,by rw[g2.tx];decide⟩
    refine Hc.bx (Z5k (hi q (by simp)) r3 k7 (by rw[f4];exact e13) hk7) fun z hz=>Hc.sk fun _=>?_;refine list_r (G:=M1 NN) (l':=c::k3) (fun s=>s.1.Init) (·.2) (fun s z=>({s.1 with Init:=s.1.Init++[z.1]},z.2)) (fun s r=>(s.1,r)) (fun x5 y5=>Q1d (qQ x5.1.Init+qQ ([y5.1]:List Z5))) (fun x=>x.1.Brace=true/\x.1.Name=s/\x.1.Type_=t/\x.1.Dims=zd) hcc (fun s z=>⟨rfl,rfl,rfl,id⟩) (fun x hx=>?_) NN _ [q] ps ⟨rfl,rfl,rfl,rfl⟩ (fun q hq r l' h1 h2=>Z5k (hi q (by simp[hq])) r l' h1 h2) ?_ (fun e=>Hc.ok trivial) fun x hx h=>?_
    . obtain⟨v,r⟩:=x
      dsimp only at hx⊢
      rw[hx.1,Ak]
      rfl
    . rcases hz with⟨g1,g2⟩|g
      . exact .inl ⟨Fl.one g1,by dsimp only;rw[g2];exact e14⟩
      . exact .inr g
    . obtain⟨v,r⟩:=x
      dsimp only[Lp.thn]at hx h⊢
      rw[hx.1,Ak]
      rcases h with⟨h1,h2⟩|h
      . obtain⟨r4,f5,f6⟩:=Y5a h2 e15.tx (.inr h15);obtain⟨r5,f7,f8⟩:=Y5a f6 e5.tx (.inr hc4);refine Hc.st f5 (Hc.st f7 ?_);exact Hc.ok ⟨⟨hx.2.1.symm,hx.2.2.1.symm,hx.2.2.2.symm,hx.1.symm,h1⟩,f8⟩
      . exact Hc.bx (mbd h (by decide)) fun _ h=>h.elim
theorem tn_r{t:K6}{tt ts:List (Aa)}{s:Aa}(h:WT t tt)(hs:Nm s){r:Z0}{l':List Y8}(ht:TL r.l (tt++s::ts) l'):∃k1,TL k1 ts l'/\Hc (U6 r) (Oe fun z=>z.1=t/\∃r2,U7 z.2=some (.ok (s,r2))/\r2.l=k1):=by
 obtain⟨k,e1,e2⟩:=ht.app;obtain⟨u,k2,rfl,e3,e4⟩:=e2.one;exact⟨k2,e4,(type_r h e1 ⟨u,k2,rfl,Z8e e3 hs⟩).oe fun z hz=>⟨hz.1,Y7l hz.2 e3 hs⟩⟩
theorem X3w{v:J2}{ts:List (Aa)}(h:WV v ts){r:Z0}{l':List Y8}(ht:TL r.l (ts++[[59]]) l'):Hc (C5 r) (Oe fun z=>EqV v z.1/\z.2.l=l'):=by
 cases h with
 |@mk p t tt s ds b ps hw hs hds hi hbr hc=>
  rw[qS,jX]at ht;obtain⟨k1,e1,e2⟩:=tn_r hw hs ht;unfold C5;refine Hc.sk fun p=>Hc.bx e2 fun z hz=>?_;obtain⟨h1,r2,h2,h3⟩:=hz;refine Hc.st h2 ?_;refine Hc.bx (X3p (t:=z.1) (s:=s) hds hi hbr hc (r:=r2) (by rw[h3];exact e1)) fun y hy=>Hc.ok ⟨?_,hy.2⟩;rw[h1]at hy;exact⟨hy.1.n,hy.1.t,hy.1.d,hy.1.br,hy.1.is⟩
def ifW:Aa:=[105,102]
def Y8a:Aa:=[101,108,115,101]
def Y2u:Aa:=[119,104,105,108,101]
def doW:Aa:=[100,111]
def forW:Aa:=[102,111,114]
def Y6j:Aa:=[115,119,105,116,99,104]
def Z4e:Aa:=[114,101,116,117,114,110]
def Z8o:Aa:=[98,114,101,97,107]
def Y4p:Aa:=[99,111,110,116,105,110,117,101]
def Y8b:Aa:=[100,101,102,97,117,108,116]
def X3i:Aa:=[99,97,115,101]
abbrev Tts:=List (Aa)
def Z2i(l:List Tts):Tts:=[123]::(l.flatten++[[125]])
abbrev Cq:=(Pos×Bool×Int)×List (V8×Tts)
def lab(d:Bool)(n:Int):Tts:=bif d then[Y8b]else[X3i,nu n]
def mkC(c:Cq):R5:=⟨c.1.1,c.1.2.1,c.1.2.2,c.2.map (·.1)⟩
def tsC(c:Cq):Tts:=lab c.1.2.1 c.1.2.2++[58]::(c.2.map (·.2)).flatten
inductive WS:V8->Tts->Prop
 |expr {p:Pos} {x:Z5} {ts:Tts} (h:WE x ts):WS ⟨1,p,[x],[],[],[],[],[],[]⟩ (ts++[[59]])
 |var {p:Pos} {v:J2} {ts:Tts} (h:WV v ts):WS ⟨2,p,[],[],[],[v],[],[],[]⟩ (ts++[[59]])
 |iff {p:Pos} {x:Z5} {ts:Tts} {qs:List (V8×Tts)} (h:WE x ts) (k:∀q∈qs,WS q.1 q.2):WS ⟨3,p,[x],[],[],[],qs.map (·.1),[],[]⟩ (ifW::[40]::(ts++[41]::Z2i (qs.map (·.2))))
 |els {p:Pos} {x:Z5} {ts:Tts} {qs rs:List (V8×Tts)} (h:WE x ts) (k:∀q∈qs,WS q.1 q.2) (j:∀q∈rs,WS q.1 q.2) (hr:0<rs.length):WS ⟨3,p,[x],[],[],[],qs.map (·.1),rs.map (·.1),[]⟩ (ifW::[40]::(ts++[41]::(Z2i (qs.map (·.2))++Y8a::Z2i (rs.map (·.2)))))
 |whl {p:Pos} {x:Z5} {ts:Tts} {qs:List (V8×Tts)} (h:WE x ts) (k:∀q∈qs,WS q.1 q.2):WS ⟨4,p,[x],[],[],[],qs.map (·.1),[],[]⟩ (Y2u::[40]::(ts++[41]::Z2i (qs.map (·.2))))
 |doo {p:Pos} {x:Z5} {ts:Tts} {qs:List (V8×Tts)} (h:WE x ts) (k:∀q∈qs,WS q.1 q.2):WS ⟨5,p,[x],[],[],[],qs.map (·.1),[],[]⟩ (doW::(Z2i (qs.map (·.2))++Y2u::[40]::(ts++[[41],[59]])))
 |forr {p:Pos} {as bs cs:List (Z5×Tts)} {qs:List (V8×Tts)} (ha:∀q∈as,WE q.1 q.2) (hb:∀q∈bs,WE q.1 q.2) (hc:∀q∈cs,WE q.1 q.2) (la:as.length<=1) (lb:bs.length<=1) (lc:cs.length<=1) (k:∀q∈qs,WS q.1 q.2):WS ⟨6,p,as.map (·.1),bs.map (·.1),cs.map (·.1),[],qs.map (·.1),[],[]⟩ (forW::[40]::(sep (as.map (·.2))++[59]::(sep (bs.map (·.2))++[59]::(sep (cs.map (·.2))++[41]::Z2i (qs.map (·.2))))))
 |swi {p:Pos} {x:Z5} {ts:Tts} {cs:List Cq} (h:WE x ts) (hc:∀c∈cs,U32 c.1.2.2/\(c.1.2.1=true->c.1.2.2=0)) (k:∀c∈cs,∀q∈c.2,WS q.1 q.2):WS ⟨7,p,[x],[],[],[],[],[],cs.map mkC⟩ (Y6j::[40]::(ts++[41]::Z2i (cs.map tsC)))
 |ret {p:Pos} {as:List (Z5×Tts)} (ha:∀q∈as,WE q.1 q.2) (la:as.length<=1):WS ⟨8,p,as.map (·.1),[],[],[],[],[],[]⟩ (Z4e::(sep (as.map (·.2))++[[59]]))
 |brk {p:Pos}:WS ⟨9,p,[],[],[],[],[],[],[]⟩ [Z8o,[59]]
 |cnt {p:Pos}:WS ⟨10,p,[],[],[],[],[],[],[]⟩ [Y4p,[59]]
 |bl {p:Pos} {qs:List (V8×Tts)} (k:∀q∈qs,WS q.1 q.2):WS ⟨11,p,[],[],[],[],qs.map (·.1),[],[]⟩ (Z2i (qs.map (·.2)))
 |emp {p:Pos}:WS ⟨12,p,[],[],[],[],[],[],[]⟩ [[59]]
theorem floop{α R:Type}{body:Int×Z8->Option (Lp (Int×Z8) R)}{K:Lp (Int×Z8) R->Option Z8}(l:List (α×Tts))(hb:l.length<=1000000){ts:Tts}
 (hs:∀(k:Nat)(h:k<l.length)(v:Z8),v.l.length+l[k].2.length<=100000000->body ((k:Int),v)=some (.go (qJ .i64 ((k:Int)+1),⟨v.l++l[k].2⟩)))
 (he:∀v,body ((l.length:Int),v)=some (.brk ((l.length:Int),v))) (hK:Wx (fun w=>K (.brk ((l.length:Int),w))) ts):Wx (fun w=>(loopM body NN ((0:Int),w)).bind K) ((l.map (·.2)).flatten++ts):=by
 intro w hw;rw[qW]at hw;refine Z9v l (l.map (·.2)) (by simp) (by omega) w (by omega) (fun k hk h2 v hv=>?_) he ?_
 . rw[List.getElem_map]at hv⊢;exact hs k hk v hv
 . have:=hK ⟨w.l++(l.map (·.2)).flatten⟩ (by simp only[qW];omega)
   dsimp only at this
   rw[this,qS]
theorem Z5x{n:Nat}{qs:List (V8×Tts)}(hl:qs.length<=1000000)(h:∀q∈qs,Wx (fun w=>(Y0g n).B3 w q.1) q.2):Wx (fun w=>(Y0g (n+1)).U9 w (qs.map (·.1))) (Z2i (qs.map (·.2))):=by
 refine Wx.cg (Wx.bd (Wx.put (ts:=[[123]])) (floop (α:=V8) (R:=Unit) (body:=fun(x2,x3)=>(bif decide (x2<(qQ (qs.map (·.1)):Int))then((idx (qs.map (·.1)) x2).bind fun u1=>((Y0g n).B3 x3 u1).bind fun y2=>some (Lp.go (qJ .i64 (x2+1),y2)))else(some (Lp.brk (x2,x3))))) (K:=fun o=>o.thn (fun(x2,x3)=>(Y5 x3 ([([125]:Aa)]:List (Aa))).bind fun y3=>some y3) (fun _=>none)) (ts:=[[125]]) qs hl (fun k hk v hv=>?_) (fun v=>?_) ?_)) rfl
 . dsimp only
   have e:=h _ (jT hk) v hv
   dsimp only at e
   rw[c1 (dt (by simp;omega)),E8 (by simpa using hk),qV,List.getElem_map,e]
   rfl
 . dsimp only
   rw[c0 (df (by simp))]
 . exact(Wx.put.bd Wx.id).cg (by simp)
theorem asked_w{s:Aa}{as:List (Z5×Tts)}(hb:sm wE (as.map (·.1))<=1000000)(h:∀q∈as,WE q.1 q.2):Wx (fun w=>W9 w s (as.map (·.1))) (s::[40]::(sep (as.map (·.2))++[[41]])):=
 (Wx.bd (Wx.put (ts:=[s,[40]])) (Wx.bd (Z6u hb h) (Wx.bd (Wx.put (ts:=[[41]])) Wx.id))).cg (by simp)
theorem Y8m{s:Aa}{x:Z5}{ts:Tts}(hb:wE x<=1000000)(h:WE x ts):Wx (fun w=>W9 w s [x]) (s::[40]::(ts++[[41]])):=
 (asked_w (as:=[(x,ts)]) (by simpa[sm]using hb) (fun q hq=>by rw[kQ.1 hq];exact h)).cg (by simp[sep,pre])
theorem Y3t{k:Int}{p:Pos}{as:List (Z5×Tts)}{B C:List Z5}{V:List J2}{S E:List V8}{D:List R5}{w:Tts}(hb:sm wE (as.map (·.1))<=1000000)(h:∀q∈as,WE q.1 q.2)(hk:k=8/\w=[Z4e]\/k=9/\w=[Z8o]\/k=10/\w=[Y4p]\/k≠8/\k≠9/\k≠10/\w=[]):Wx (fun v=>Q5m v ⟨k,p,as.map (·.1),B,C,V,S,E,D⟩) (w++(sep (as.map (·.2))++[[59]])):=by
 have rest:=Wx.bd (Z6u hb h) (Wx.bd (Wx.put (ts:=[[59]])) Wx.id);rw[jK]at rest
 rcases hk with⟨rfl,rfl⟩|⟨rfl,rfl⟩|⟨rfl,rfl⟩|⟨h1,h2,h3,rfl⟩
 . exact Wx.bd (Wx.put (ts:=[Z4e])) rest
 . exact Wx.bd (Wx.put (ts:=[Z8o])) rest
 . exact Wx.bd (Wx.put (ts:=[Y4p])) rest
 . intro v hv
   dsimp only
   unfold Q5m
   dsimp only[jn]
   rw[c0 (beq_eq_false_iff_ne.2 h1),c0 (beq_eq_false_iff_ne.2 h2),c0 (beq_eq_false_iff_ne.2 h3)];exact rest v hv
theorem cases_w{n:Nat}{cs:List Cq}(hl:cs.length<=1000000)(hl2:∀c∈cs,c.2.length<=1000000)(hc:∀c∈cs,U32 c.1.2.2)(h:∀c∈cs,∀q∈c.2,Wx (fun w=>(Y0g n).B3 w q.1) q.2):Wx (fun w=>(Y0g (n+1)).W8 w (cs.map mkC)) (Z2i (cs.map tsC)):=by
 intro w hw;show Q3o (Y0g n) w (cs.map mkC)=_;unfold Q3o Z2i at*
 simp only[qY,qW,jF]at hw
 rw[Q7c (by simp;omega),qV];refine Z9v (cs.map mkC) (cs.map tsC) (by simp) (by simp;omega) _ (by simp only[qW,qY,jF];omega) (fun k hk h2 v hv=>?_) (fun v=>by dsimp only;rw[c0 (dge _)]) ?_
 . have hk':k<cs.length:=by simpa using hk
   rw[List.getElem_map]at hv⊢
   dsimp only
   rw[c1 (dlt hk),E8 hk,qV,List.getElem_map];have hm:=jT hk'
   generalize cs[k]=c at hv hm⊢
   obtain⟨⟨p,d,m⟩,qs⟩:=c;unfold tsC at hv
   simp only[qW,qY]at hv
   have fin:∀(x5:Z8),x5.l.length+(1+(qs.map (·.2)).flatten.length)<=100000000->((Y5 x5 ([([58]:Aa)]:List (Aa))).bind fun y5=>(loopM (fun(x7,x8)=>(bif decide (x7<(qQ (qs.map (·.1)):Int))then((idx (qs.map (·.1)) x7).bind fun u2=>((Y0g n).B3 x8 u2).bind fun y6=>some (Lp.go (qJ .i64 (x7+1),y6)))else(some (Lp.brk (x7,x8))):Option (Lp (Int×Z8) (Unit)))) NN ((0:Int),y5)).bind fun o=>o.thn (fun(x7,x8)=>some (Lp.go (R:=Unit) (qJ .i64 ((k:Int)+1),x8))) (fun _=>none))=some (Lp.go (qJ .i64 ((k:Int)+1),⟨x5.l++[58]::(qs.map (·.2)).flatten⟩)):=by
    intro x5 hx;have:=hl2 _ hm
    dsimp only at this
    rw[Q7c (by simp;omega),qV];refine Z9v qs (qs.map (·.2)) (by simp) (by omega) _ (by simp only[qW,qY,jF];omega) (fun k hk h2 v hv=>?_) (fun v=>by dsimp only;rw[c0 (df (by simp))]) (by dsimp only[Lp.thn];simp);rw[List.getElem_map]at hv⊢;have e:=h _ hm _ (jT hk) v hv
    dsimp only at e⊢
    rw[c1 (dt (by simp;omega)),E8 (by simpa using hk),qV,List.getElem_map,e]
    rfl
   dsimp only[mkC,jn]
   cases d with
   |true=>
    simp only[lab,Ak,qY,jF]at hv
    rw[Ak,Q7c (by simp;omega),qV];refine(fin ⟨v.l++[Y8b]⟩ (by simp only[qW,qY,jF];omega)).trans ?_
    simp[tsC,lab]
   |false=>
    simp only[lab,Aj,qY,jF]at hv
    have e:=Y7k (hc _ hm) ⟨v.l++[X3i]⟩ (by simp;omega)
    dsimp only at e
    rw[Aj,Q7c (by simp;omega),qV];rw[show([99,97,115,101]:Aa)=X3i from rfl,e,qV];refine(fin ⟨v.l++[X3i]++[nu m]⟩ (by simp only[qW,qY,jF];omega)).trans ?_
    simp[tsC,lab]
 . dsimp only[Lp.thn]
   rw[Q7c (by simp only[qW,qY,jF];omega)]
   simp
theorem sm1v(v:J2):sm wV [v]=wV v:=by simp[sm]
theorem smq{α β:Type}{w:α->Nat}{f:β->α}{l:List β}{q:β}(h:q∈l):w (f q)<=sm w (l.map f):=smem (List.mem_map_of_mem h)
theorem sml{α β:Type}{w:α->Nat}(hw:∀x,1<=w x){f:β->α}(l:List β):l.length<=sm w (l.map f):=by
 have:=Q1u hw (l.map f)
 rwa[List.length_map]at this
theorem slSq(l:List (V8×Tts)):l.length<=sm wS (l.map fun q=>q.1):=sml Z5z l
theorem smS{l:List (V8×Tts)}{q:V8×Tts}(h:q∈l):wS q.1<=sm wS (l.map fun q=>q.1):=smq h
theorem wCk(c:Cq):wC (mkC c)=1+sm wS (c.2.map (·.1)):=rfl
theorem stmt_w{x:V8}{ts:Tts}(h:WS x ts):wS x<=1000000->∀n,2*wS x<=n->Wx (fun w=>(Y0g n).B3 w x) ts:=by
 induction h with
 |@expr p x ts h=>
  intro hb n hn;rw[wSk,sm1]at hn hb;obtain⟨m,rfl⟩:∃m,n=m+1:=⟨n-1,by omega⟩;exact((Y3t (k:=1) (as:=[(x,ts)]) (by simp only[List.map_cons,List.map_nil,sm1];omega) (fun q hq=>by rw[kQ.1 hq];exact h) (.inr (.inr (.inr ⟨by decide,by decide,by decide,rfl⟩)))).bd Wx.id).cg (by simp[sep,pre])
 |@var p v ts h=>
  intro hb n hn;rw[wSk,sm1v]at hn hb;obtain⟨m,rfl⟩:∃m,n=m+1:=⟨n-1,by omega⟩;have hv:sm wE v.Init<=1000000/\v.Dims.length<=1000000:=by unfold wV at hb;exact⟨by omega,by omega⟩
  exact(floop (α:=J2) (R:=Unit) (body:=fun(x2,x3)=>(bif decide (x2<(qQ [v]:Int))then((idx [v] x2).bind fun u1=>(C4 x3 u1).bind fun y1=>some (Lp.go (qJ .i64 (x2+1),y1)))else(some (Lp.brk (x2,x3))))) [(v,ts)] (by simp) (fun k hk u hu=>by
   obtain rfl:k=0:=by simpa using hk
   have e:=Z7j h hv.1 hv.2 u hu
   dsimp only[List.getElem_cons_zero]at e⊢
   rw[c1 (dt (by simp)),show idx [v] ((0:Nat):Int)=some v from rfl,qV,e]
   rfl) (fun v=>rfl) (Wx.put.bd Wx.id)).cg (by simp)
 |@iff p x ts qs h k ih=>
  intro hb n hn;rw[wSk,sm1]at hn hb;obtain⟨m,rfl⟩:∃m,n=m+2:=⟨n-2,by omega⟩;have:=slSq qs;exact((Y8m (s:=ifW) (by omega) h).bd ((Z5x (n:=m) (qs:=qs) (by omega) fun q hq=>by have:=smS hq;exact ih q hq (by omega) m (by omega)).bd Wx.id)).cg (by simp)
 |@els p x ts qs rs h k j hr ih ij=>
  intro hb n hn;rw[wSk,sm1]at hn hb;obtain⟨m,rfl⟩:∃m,n=m+2:=⟨n-2,by omega⟩;have:=slSq qs;have:=slSq rs;have key:=((Y8m (s:=ifW) (by omega) h).bd ((Z5x (n:=m) (qs:=qs) (by omega) fun q hq=>by have:=smS hq;exact ih q hq (by omega) m (by omega)).bd ((Wx.put (ts:=[Y8a])).bd ((Z5x (n:=m) (qs:=rs) (by omega) fun q hq=>by have:=smS hq;exact ij q hq (by omega) m (by omega)).bd Wx.id))));intro w hw;refine Eq.trans ?_ (key.cg (by simp) w hw);show((W9 w ifW [x]).bind fun y3=>((Y0g (m+1)).U9 y3 (qs.map (·.1))).bind fun y4=>bif decide (0<(qQ (rs.map (·.1)):Int))then((Y5 y4 ([Y8a]:List (Aa))).bind fun y5=>((Y0g (m+1)).U9 y5 (rs.map (·.1))).bind fun y6=>some y6)else(some y4))=_;rw[dt (by simp;omega)]
  rfl
 |@whl p x ts qs h k ih=>
  intro hb n hn;rw[wSk,sm1]at hn hb;obtain⟨m,rfl⟩:∃m,n=m+2:=⟨n-2,by omega⟩;have:=slSq qs;exact((Y8m (s:=Y2u) (by omega) h).bd ((Z5x (n:=m) (qs:=qs) (by omega) fun q hq=>by have:=smS hq;exact ih q hq (by omega) m (by omega)).bd Wx.id)).cg (by simp)
 |@doo p x ts qs h k ih=>
  intro hb n hn;rw[wSk,sm1]at hn hb;obtain⟨m,rfl⟩:∃m,n=m+2:=⟨n-2,by omega⟩;have:=slSq qs;exact((Wx.put (ts:=[doW])).bd ((Z5x (n:=m) (qs:=qs) (by omega) fun q hq=>by have:=smS hq;exact ih q hq (by omega) m (by omega)).bd ((Y8m (s:=Y2u) (by omega) h).bd ((Wx.put (ts:=[[59]])).bd Wx.id)))).cg (by simp)
 |@forr p as bs cs qs ha hb' hc la lb lc k ih=>
  intro hb n hn;rw[wSk]at hn hb;obtain⟨m,rfl⟩:∃m,n=m+2:=⟨n-2,by omega⟩;have b1:sm wE (as.map (·.1))<=1000000:=by omega
  have b2:sm wE (bs.map (·.1))<=1000000:=by omega
  have b3:sm wE (cs.map (·.1))<=1000000:=by omega
  have:=slSq qs;exact((Wx.put (ts:=[forW,[40]])).bd ((Z6u (ps:=as) b1 ha).bd ((Wx.put (ts:=[[59]])).bd ((Z6u (ps:=bs) b2 hb').bd ((Wx.put (ts:=[[59]])).bd ((Z6u (ps:=cs) b3 hc).bd ((Wx.put (ts:=[[41]])).bd ((Z5x (n:=m) (qs:=qs) (by omega) fun q hq=>by have:=smS hq;exact ih q hq (by omega) m (by omega)).bd Wx.id)))))))).cg (by simp)
 |@swi p x ts cs h hc k ih=>
  intro hb n hn;rw[wSk,sm1]at hn hb;obtain⟨m,rfl⟩:∃m,n=m+2:=⟨n-2,by omega⟩;have hl:=sml (f:=mkC) X3u cs;have hm:∀c∈cs,1+sm wS (c.2.map (·.1))<=sm wC (cs.map mkC):=fun c hc=>smq (w:=wC) (f:=mkC) hc;exact((Y8m (s:=Y6j) (by omega) h).bd ((cases_w (n:=m) (cs:=cs) (by omega) (fun c hc=>by have:=hm c hc;have:=sml (f:=fun q:V8×Tts=>q.1) Z5z c.2;omega) (fun c h=>(hc c h).1) fun c hc q hq=>by have:=hm c hc;have:=smS hq;exact ih c hc q hq (by omega) m (by omega)).bd Wx.id)).cg (by simp)
 |@ret p as ha la=>
  intro hb n hn;rw[wSk]at hn hb;obtain⟨m,rfl⟩:∃m,n=m+1:=⟨n-1,by omega⟩;have b1:sm wE (as.map (·.1))<=1000000:=by omega
  exact((Y3t (k:=8) (as:=as) b1 ha (.inl ⟨rfl,rfl⟩)).bd Wx.id).cg (by simp)
 |brk=>
  intro hb n hn;rw[wSk]at hn hb;obtain⟨m,rfl⟩:∃m,n=m+1:=⟨n-1,by omega⟩;exact((Y3t (k:=9) (as:=[]) (by simp[sm]) (fun q hq=>by cases hq) (.inr (.inl ⟨rfl,rfl⟩))).bd Wx.id).cg (by simp[sep,pre])
 |cnt=>
  intro hb n hn;rw[wSk]at hn hb;obtain⟨m,rfl⟩:∃m,n=m+1:=⟨n-1,by omega⟩;exact((Y3t (k:=10) (as:=[]) (by simp[sm]) (fun q hq=>by cases hq) (.inr (.inr (.inl ⟨rfl,rfl⟩)))).bd Wx.id).cg (by simp[sep,pre])
 |@bl p qs k ih=>
  intro hb n hn;rw[wSk]at hn hb;obtain⟨m,rfl⟩:∃m,n=m+2:=⟨n-2,by omega⟩;have:=slSq qs;exact((Z5x (n:=m) (qs:=qs) (by omega) fun q hq=>by have:=smS hq;exact ih q hq (by omega) m (by omega)).bd Wx.id).cg (by simp)
 |emp=>
  intro hb n hn;rw[wSk]at hn hb;obtain⟨m,rfl⟩:∃m,n=m+1:=⟨n-1,by omega⟩;exact((Y3t (k:=12) (as:=[]) (by simp[sm]) (fun q hq=>by cases hq) (.inr (.inr (.inr ⟨by decide,by decide,by decide,rfl⟩)))).bd Wx.id).cg (by simp[sep,pre])
theorem X7k{qs:List (V8×Tts)}(hb:sm wS (qs.map (·.1))<=1000000)(h:∀q∈qs,WS q.1 q.2):Wx (fun w=>U9 w (qs.map (·.1))) (Z2i (qs.map (·.2))):=by
 obtain⟨n,hn,hn2⟩:=NN1;unfold U9;rw[hn];have:=slSq qs;exact Z5x (by omega) fun q hq=>by have:=smS hq;exact stmt_w (h q hq) (by omega) n (by omega)
inductive WU:S8->Tts->Prop
 |mk {p:Pos} {s:Aa} {fs:List (J2×Tts)} (hs:Nm s) (h:∀q∈fs,WV q.1 q.2/\q.1.Init=[]/\q.1.Brace=false):WU ⟨p,s,fs.map (·.1)⟩ (Q1z::s::[123]::((fs.map fun q=>q.2++[[59]]).flatten++[[125],[59]]))
inductive WF:L6->Tts->Prop
 |mk {p:Pos} {t:K6} {tt:Tts} {s:Aa} {ps:List (J2×Tts)} {qs:List (V8×Tts)} (ht:WT t tt) (hs:Nm s) (hp:∀q∈ps,WV q.1 q.2/\q.1.Init=[]/\q.1.Brace=false/\q.1.Dims=[]) (hb:∀q∈qs,WS q.1 q.2):WF ⟨p,t,s,ps.map (·.1),qs.map (·.1)⟩ (tt++s::[40]::(sep (ps.map (·.2))++[41]::Z2i (qs.map (·.2))))
inductive WP:U3->Tts->Prop
 |mk {us:List (S8×Tts)} {gs:List (J2×Tts)} {fs:List (L6×Tts)} (hu:∀q∈us,WU q.1 q.2) (hg:∀q∈gs,WV q.1 q.2) (hf:∀q∈fs,WF q.1 q.2):WP ⟨us.map (·.1),gs.map (·.1),fs.map (·.1)⟩ ((us.map (·.2)).flatten++((gs.map fun q=>q.2++[[59]]).flatten++(fs.map (·.2)).flatten))
theorem Y4l{α β:Type}{w:α->Nat}{f:β->α}{g:β->Tts}:∀{l:List β},(∀q∈l,(g q).length<=12*w (f q))->(l.map g).flatten.length<=12*sm w (l.map f)
 |[],_=>kX _
 |q::l,h=>by
  have h1:=h q (by simp)
  have h2:=Y4l (l:=l) (w:=w) (f:=f) (g:=g) fun q hq=>h q (by simp[hq])
  simp only[List.map_cons,List.flatten_cons,qW,Q3q]
  omega
theorem fls{qs:List (V8×Tts)}(h:∀q∈qs,q.2.length<=12*wS q.1):(qs.map (·.2)).flatten.length<=12*sm wS (qs.map (·.1)):=Y4l h
theorem Z0l(l:List Tts):(Z2i l).length=l.flatten.length+2:=by
 unfold Z2i
 simp only[qY,qW,jF]
theorem WS.len{x:V8}{ts:Tts}(h:WS x ts):ts.length<=12*wS x:=by
 induction h with
 |expr h=>have:=h.len;rw[wSk,sm1];simp only[qW,qY,jF];omega
 |var h=>have:=h.len;rw[wSk,sm1v];simp only[qW,qY,jF];omega
 |iff h k ih=>have:=h.len;have:=fls ih;rw[wSk,sm1];simp only[qW,qY,Z0l];omega
 |els h k j hr ih ij=>have:=h.len;have:=fls ih;have:=fls ij;rw[wSk,sm1];simp only[qW,qY,Z0l];omega
 |whl h k ih=>have:=h.len;have:=fls ih;rw[wSk,sm1];simp only[qW,qY,Z0l];omega
 |doo h k ih=>have:=h.len;have:=fls ih;rw[wSk,sm1];simp only[qW,qY,jF,Z0l];omega
 |@forr p as bs cs qs ha hb hc la lb lc k ih=>
  have h1:(sep (as.map (·.2))).length+2*as.length<=12*sm wE (as.map (·.1)):=sepl ha;have h2:(sep (bs.map (·.2))).length+2*bs.length<=12*sm wE (bs.map (·.1)):=sepl hb;have h3:(sep (cs.map (·.2))).length+2*cs.length<=12*sm wE (cs.map (·.1)):=sepl hc;have:=fls ih;rw[wSk];simp only[qW,qY,Z0l];omega
 |@swi p x ts cs h hc k ih=>
  have:=h.len
  have:=Y4l (w:=wC) (f:=mkC) (g:=tsC) (l:=cs) fun c hcm=>by
   have:=fls (ih c hcm);rw[wCk];unfold tsC lab;cases c.1.2.1<;>simp only[Ak,Aj,qW,qY,jF]<;>omega
  rw[wSk,sm1];simp only[qW,qY,Z0l];omega
 |@ret p as ha la=>
  have h1:(sep (as.map (·.2))).length+2*as.length<=12*sm wE (as.map (·.1)):=sepl ha;rw[wSk];simp only[qW,qY,jF];omega
 |brk=>rw[wSk];simp only[qY,jF];omega
 |cnt=>rw[wSk];simp only[qY,jF];omega
 |bl k ih=>have:=fls ih;rw[wSk,Z0l];omega
 |emp=>rw[wSk];simp only[qY,jF];omega
theorem WU.len{x:S8}{ts:Tts}(h:WU x ts):ts.length<=12*wT x:=by
 cases h with
 |@mk p s fs hs h=>
  have:=Y4l (w:=wV) (f:=fun q:J2×Tts=>q.1) (g:=fun q=>q.2++[[59]]) (l:=fs) fun q hq=>by have:=(h q hq).1.len;simp only[qW,qY,jF];omega
  unfold wT
  simp only[qW,qY,jF];omega
theorem sepv_le:∀{ps:List (J2×Tts)},(∀q∈ps,q.2.length+2<=12*wV q.1)->(sep (ps.map (·.2))).length<=12*sm wV (ps.map (·.1))
 |[],_=>kX _
 |q::ps,h=>by
  have h1:=h q (by simp)
  have h2:=Y4l (w:=wV) (f:=fun q:J2×Tts=>q.1) (g:=fun q=>[44]::q.2) (l:=ps) fun q hq=>by have:=h q (by simp[hq]);simp only[qY];omega
  have e:sep ((q::ps).map (·.2))=q.2++(ps.map fun q=>[44]::q.2).flatten:=by simp only[sep,pre,List.map_cons,List.flatten_cons,List.map_map];rfl
  rw[e]
  simp only[List.map_cons,qW,Q3q]
  omega
theorem WF.len{x:L6}{ts:Tts}(h:WF x ts):ts.length<=12*wF x:=by
 cases h with
 |@mk p t tt s ps qs ht hs hp hb=>
  have h1:=ht.len;have h2:=sepv_le fun q hq=>(hp q hq).1.len;have h3:=Y4l (w:=wS) (f:=fun q:V8×Tts=>q.1) (g:=fun q=>q.2) (l:=qs) fun q hq=>(hb q hq).len;unfold wF
  simp only[qW,qY,Z0l]
  omega
theorem WP.len{x:U3}{ts:Tts}(h:WP x ts):ts.length<=12*wP x:=by
 cases h with
 |@mk us gs fs hu hg hf=>
  have h1:=Y4l (w:=wT) (f:=fun q:S8×Tts=>q.1) (g:=fun q=>q.2) (l:=us) fun q hq=>(hu q hq).len;have h2:=Y4l (w:=wV) (f:=fun q:J2×Tts=>q.1) (g:=fun q=>q.2++[[59]]) (l:=gs) fun q hq=>by have:=(hg q hq).len;simp only[qW,qY,jF];omega
  have h3:=Y4l (w:=wF) (f:=fun q:L6×Tts=>q.1) (g:=fun q=>q.2) (l:=fs) fun q hq=>(hf q hq).len;unfold wP
  simp only[qW]
  omega
def Tk(s:Aa):Prop:=∃k n,Tx s k n
theorem Txs.nil:Txs []:=fun s h=>by cases h
theorem M5{s:Aa}{l:Tts}:Txs (s::l)↔Tk s/\Txs l:=by
 unfold Txs Tk
 simp
theorem Q4a{a b:Tts}:Txs (a++b)↔Txs a/\Txs b:=by
 unfold Txs
 simp only[jQ]
 exact⟨fun h=>⟨fun s hs=>h s (.inl hs),fun s hs=>h s (.inr hs)⟩,fun h s hs=>hs.elim (h.1 s) (h.2 s)⟩
theorem txs_f{l:List Tts}(h:∀t∈l,Txs t):Txs l.flatten:=fun s hs=>by
 obtain⟨t,h1,h2⟩:=List.mem_flatten.1 hs
 exact h t h1 s h2
theorem Y5l{β:Type}{g:β->Tts}{l:List β}(h:∀q∈l,Txs (g q)):Txs (l.map g).flatten:=txs_f fun t ht=>by
 obtain⟨q,h1,rfl⟩:=List.mem_map.1 ht
 exact h q h1
theorem tc{s:Aa}(h:s∈Q0f++Z0e):Tk s:=by
 rcases jQ.1 h with h|h
 . exact⟨_,_,km h⟩
 . exact⟨_,_,kw h⟩
theorem Nm.tk{s:Aa}(h:Nm s):Tk s:=⟨_,_,h⟩
theorem Z7l{β:Type}{g:β->Tts}{l:List β}(h:∀q∈l,Txs (g q)):Txs (sep (l.map g)):=by
 cases l with
 |nil=>exact Txs.nil
 |cons q l=>
  unfold sep pre;refine Q4a.2 ⟨h q (by simp),?_⟩;rw[List.map_map];exact Y5l fun q hq=>M5.2 ⟨tc (by decide),h q (by simp[hq])⟩
theorem Z0n{k:Int}{ts:Tts}(h:Txs ts):Txs (opd k ts):=by
 unfold opd
 split
 . exact h
 . exact M5.2 ⟨tc (by decide),Q4a.2 ⟨h,M5.2 ⟨tc (by decide),.nil⟩⟩⟩
theorem Z4b{β:Type}{g:β->Tts}{l:List β}(h:∀q∈l,Txs (g q)):Txs (Z2i (l.map g)):=M5.2 ⟨tc (by decide),Q4a.2 ⟨Y5l h,M5.2 ⟨tc (by decide),.nil⟩⟩⟩
theorem WT.tx{t:K6}{ts:Tts}(h:WT t ts):Txs ts:=by
 have star:∀n,Txs (kZ n [42]):=fun n s hs=>by rw[(List.mem_replicate.1 hs).2];exact tc (by decide)
 cases h with
 |base hn h=>exact M5.2 ⟨tc ((by decide:∀s∈Z3z,s∈Q0f++Z0e) _ h),star _⟩
 |strct hn h=>exact M5.2 ⟨tc (by decide),M5.2 ⟨h.tk,star _⟩⟩
theorem WE.tx{x:Z5}{ts:Tts}(h:WE x ts):Txs ts:=by
 induction h with
 |num h=>exact M5.2 ⟨⟨_,_,Y2j h⟩,.nil⟩
 |name h=>exact M5.2 ⟨h.tk,.nil⟩
 |una h k ih=>exact M5.2 ⟨tc ((by decide:∀s∈unaO,s∈Q0f++Z0e) _ h),Z0n ih⟩
 |pp h k ih=>exact M5.2 ⟨tc ((by decide:∀s∈ppO,s∈Q0f++Z0e) _ h),Z0n ih⟩
 |bin h k j ih ij=>exact Q4a.2 ⟨Z0n ih,M5.2 ⟨tc ((by decide:∀s∈binO,s∈Q0f++Z0e) _ h),Z0n ij⟩⟩
 |asg h k j ih ij=>exact Q4a.2 ⟨Z0n ih,M5.2 ⟨tc ((by decide:∀s∈asgO,s∈Q0f++Z0e) _ h),Z0n ij⟩⟩
 |cond k j i ih ij ii=>exact Q4a.2 ⟨Z0n ih,M5.2 ⟨tc (by decide),Q4a.2 ⟨Z0n ij,M5.2 ⟨tc (by decide),Z0n ii⟩⟩⟩⟩
 |inp=>exact M5.2 ⟨tc (by decide),M5.2 ⟨tc (by decide),M5.2 ⟨tc (by decide),.nil⟩⟩⟩
 |out k ih=>exact M5.2 ⟨tc (by decide),M5.2 ⟨tc (by decide),Q4a.2 ⟨ih,M5.2 ⟨tc (by decide),.nil⟩⟩⟩⟩
 |call h k ih=>exact M5.2 ⟨h.tk,M5.2 ⟨tc (by decide),Q4a.2 ⟨Z7l ih,M5.2 ⟨tc (by decide),.nil⟩⟩⟩⟩
 |idx k j ih ij=>exact Q4a.2 ⟨Z0n ih,M5.2 ⟨tc (by decide),Q4a.2 ⟨ij,M5.2 ⟨tc (by decide),.nil⟩⟩⟩⟩
 |mem h hs k ih=>exact Q4a.2 ⟨Z0n ih,M5.2 ⟨tc ((by decide:∀s∈mbO,s∈Q0f++Z0e) _ h),M5.2 ⟨hs.tk,.nil⟩⟩⟩
 |post h k ih=>exact Q4a.2 ⟨Z0n ih,M5.2 ⟨tc ((by decide:∀s∈ppO,s∈Q0f++Z0e) _ h),.nil⟩⟩
 |size h=>exact M5.2 ⟨tc (by decide),M5.2 ⟨tc (by decide),Q4a.2 ⟨h.tx,M5.2 ⟨tc (by decide),.nil⟩⟩⟩⟩
theorem WV.tx{v:J2}{ts:Tts}(h:WV v ts):Txs ts:=by
 cases h with
 |@mk p t tt s ds b ps ht hs hds hi hbr hc=>
  refine Q4a.2 ⟨ht.tx,M5.2 ⟨hs.tk,Q4a.2 ⟨Y5l fun d hd=>M5.2 ⟨tc (by decide),M5.2 ⟨⟨_,_,Y2j (hds d hd)⟩,M5.2 ⟨tc (by decide),.nil⟩⟩⟩,?_⟩⟩⟩;unfold iniT;have hi2:Txs (sep (ps.map (·.2))):=Z7l fun q hq=>(hi q hq).tx
  split
  . exact .nil
  . refine M5.2 ⟨tc (by decide),?_⟩;cases b with
    |false=>exact hi2
    |true=>exact M5.2 ⟨tc (by decide),Q4a.2 ⟨hi2,M5.2 ⟨tc (by decide),.nil⟩⟩⟩
theorem WS.tx{x:V8}{ts:Tts}(h:WS x ts):Txs ts:=by
 have one:Txs [[59]]:=M5.2 ⟨tc (by decide),.nil⟩;have c40:∀{s:Aa}{l:Tts},s∈Q0f++Z0e->Txs l->Txs (s::[40]::l):=fun h k=>M5.2 ⟨tc h,M5.2 ⟨tc (by decide),k⟩⟩;have c41:∀{t l:Tts},Txs t->Txs l->Txs (t++[41]::l):=fun h k=>Q4a.2 ⟨h,M5.2 ⟨tc (by decide),k⟩⟩;have c59:∀{t l:Tts},Txs t->Txs l->Txs (t++[59]::l):=fun h k=>Q4a.2 ⟨h,M5.2 ⟨tc (by decide),k⟩⟩
 induction h with
 |expr h=>exact Q4a.2 ⟨h.tx,one⟩
 |var h=>exact Q4a.2 ⟨h.tx,one⟩
 |iff h k ih=>exact c40 (by decide) (c41 h.tx (Z4b ih))
 |els h k j hr ih ij=>exact c40 (by decide) (c41 h.tx (Q4a.2 ⟨Z4b ih,M5.2 ⟨tc (by decide),Z4b ij⟩⟩))
 |whl h k ih=>exact c40 (by decide) (c41 h.tx (Z4b ih))
 |doo h k ih=>exact M5.2 ⟨tc (by decide),Q4a.2 ⟨Z4b ih,c40 (by decide) (c41 h.tx one)⟩⟩
 |forr ha hb hc la lb lc k ih=>exact c40 (by decide) (c59 (Z7l fun q hq=>(ha q hq).tx) (c59 (Z7l fun q hq=>(hb q hq).tx) (c41 (Z7l fun q hq=>(hc q hq).tx) (Z4b ih))))
 |swi h hc k ih=>
  refine c40 (by decide) (c41 h.tx (Z4b fun c hcm=>?_));unfold tsC lab;refine Q4a.2 ⟨?_,M5.2 ⟨tc (by decide),Y5l (ih c hcm)⟩⟩;cases c.1.2.1 with
  |true=>exact M5.2 ⟨tc (by decide),.nil⟩
  |false=>exact M5.2 ⟨tc (by decide),M5.2 ⟨⟨_,_,Y2j (hc c hcm).1⟩,.nil⟩⟩
 |ret ha la=>exact M5.2 ⟨tc (by decide),Q4a.2 ⟨Z7l fun q hq=>(ha q hq).tx,one⟩⟩
 |brk=>exact M5.2 ⟨tc (by decide),one⟩
 |cnt=>exact M5.2 ⟨tc (by decide),one⟩
 |bl k ih=>exact Z4b ih
 |emp=>exact one
theorem txs_1:Txs [[59]]:=M5.2 ⟨tc (by decide),.nil⟩
theorem WU.tx{x:S8}{ts:Tts}(h:WU x ts):Txs ts:=by
 cases h with
 |mk hs h=>exact M5.2 ⟨tc (by decide),M5.2 ⟨hs.tk,M5.2 ⟨tc (by decide),Q4a.2 ⟨Y5l fun q hq=>Q4a.2 ⟨(h q hq).1.tx,txs_1⟩,M5.2 ⟨tc (by decide),txs_1⟩⟩⟩⟩⟩
theorem WF.tx{x:L6}{ts:Tts}(h:WF x ts):Txs ts:=by
 cases h with
 |mk ht hs hp hb=>exact Q4a.2 ⟨ht.tx,M5.2 ⟨hs.tk,M5.2 ⟨tc (by decide),Q4a.2 ⟨Z7l fun q hq=>(hp q hq).1.tx,M5.2 ⟨tc (by decide),Z4b fun q hq=>(hb q hq).tx⟩⟩⟩⟩⟩
theorem WP.tx{x:U3}{ts:Tts}(h:WP x ts):Txs ts:=by
 cases h with
 |mk hu hg hf=>exact Q4a.2 ⟨Y5l fun q hq=>(hu q hq).tx,Q4a.2 ⟨Y5l fun q hq=>Q4a.2 ⟨(hg q hq).tx,txs_1⟩,Y5l fun q hq=>(hf q hq).tx⟩⟩
def stL:List (Aa):=[[105,110,116],[99,104,97,114],[118,111,105,100],Q1z,[123],[59],ifW,Y2u,doW,forW,Y6j,Z4e,Z8o,Y4p]
def HdS(s:Aa):Prop:=HdE s\/s∈stL
theorem HdS.ff{s m:Aa}{t:Y8}(h:HdS s)(ht:Kt t s)(hm:m∉hdL++stL):Ff t m:=by
 rcases h with h|h
 . exact h.ff ht fun e=>hm (List.mem_append_left _ e)
 . exact Z2d ht fun e=>hm (List.mem_append_right _ (e▸h))
theorem WS.fst{x:V8}{ts:Tts}(h:WS x ts):∃s us,ts=s::us/\HdS s:=by
 cases h with
 |expr h=>obtain⟨s,us,rfl,hs⟩:=h.fst;exact⟨_,_,rfl,.inl hs⟩
 |var h=>
  cases h with
  |mk ht hs hd hi hb hc=>
   obtain⟨s,us,rfl,h⟩:=ht.fst;exact⟨_,_,rfl,.inr (by rcases h with h|rfl;exact(by decide:∀s∈Z3z,s∈stL) _ h;decide)⟩
 |iff h k=>exact⟨_,_,rfl,.inr (by decide)⟩
 |els h k j hr=>exact⟨_,_,rfl,.inr (by decide)⟩
 |whl h k=>exact⟨_,_,rfl,.inr (by decide)⟩
 |doo h k=>exact⟨_,_,rfl,.inr (by decide)⟩
 |forr ha hb hc la lb lc k=>exact⟨_,_,rfl,.inr (by decide)⟩
 |swi h hc k=>exact⟨_,_,rfl,.inr (by decide)⟩
 |ret ha la=>exact⟨_,_,rfl,.inr (by decide)⟩
 |brk=>exact⟨_,_,rfl,.inr (by decide)⟩
 |cnt=>exact⟨_,_,rfl,.inr (by decide)⟩
 |bl k=>exact⟨_,_,rfl,.inr (by decide)⟩
 |emp=>exact⟨_,_,rfl,.inr (by decide)⟩
def El(l:List Y8):Prop:=∃u k,l=u::k/\Ff u Y8a
def Sb(x:V8)(ts:Tts):Prop:=∀n (r:Z0) l',TL r.l ts l'->El l'->Hc ((Q5s n).J1 r) (Oe fun z=>EqS x z.1/\z.2.l=l')
abbrev Sl(qs:List (V8×Tts)):Prop:=∀q∈qs,WS q.1 q.2/\Sb q.1 q.2
theorem next_s{qs:List (V8×Tts)}(h:∀q∈qs,WS q.1 q.2){l:List Y8}{c:Y8}{l':List Y8}(ht:TL l (qs.map (·.2)).flatten (c::l')):∃u k,l=u::k/\(qs=[]/\u=c/\k=l'\/∃s,HdS s/\Kt u s):=by
 cases qs with
 |nil=>exact⟨c,l',ht.emp,.inl ⟨rfl,rfl,rfl⟩⟩
 |cons q qs=>
  obtain⟨s,us,hs,hh⟩:=(h q (by simp)).fst;rw[List.map_cons,List.flatten_cons,hs]at ht;obtain⟨u,k,e1,e2,_⟩:=TL.one ht;exact⟨u,k,e1,.inr ⟨s,hh,e2⟩⟩
theorem X5h{S R Z:Type}{n:Nat}{Q:Z->Prop}{l':List Y8}{c:Y8}{body:S->Option (Lp S (An R))}{K:Lp S (An R)->Option Z}(f:S->List V8)(rd:S->Z0)(J:S->Prop)(E:List Y8)
 (hc:Ff c Y8a)
 (hb:∀s u k,J s->(rd s).l=u::k->(∃w,HdS w/\Kt u w)->∀{Q:Lp S (An R)->Prop},(∀e,Q (.ret (.error e)))->∀{T:V8×Z0->Prop},Hc ((Q5s n).J1 (rd s)) (Oe T)->(∀z s',T z->J s'->f s'=f s++[z.1]->(rd s').l=z.2.l->Q (.go s'))->Hc (body s) Q)
 (he:∀s,J s->(rd s).l=c::l'->∀{Q:Lp S (An R)->Prop},(∀s',f s'=f s->J s'->(rd s').l=E->Q (.brk s'))->Hc (body s) Q)
 (m:Nat) (s:S) (qs:List (V8×Tts)) (hj:J s) (hq:Sl qs) (h0:f s=[]) (h1:TL (rd s).l (qs.map (·.2)).flatten (c::l')) (hE:∀e,Hc (K (.ret (.error e))) Q)
 (hX:∀s,J s->Fl EqS (qs.map (·.1)) (f s)->(rd s).l=E->Hc (K (.brk s)) Q):Hc ((loopM body m s).bind K) Q:=by
 refine Hc.lp (fun s=>J s/\∃done ps,done++ps=qs/\Fl EqS (done.map (·.1)) (f s)/\TL (rd s).l (ps.map (·.2)).flatten (c::l')) ?_ m s ⟨hj,[],qs,rfl,by rw[h0];exact Fl.nil,h1⟩;rintro s ⟨hj,done,ps,hd,g0,h2⟩;have hps:Sl ps:=fun q hq'=>hq q (by rw[<-hd];exact List.mem_append_right _ hq');obtain⟨u,k,e1,e2⟩:=next_s (fun q hq=>(hps q hq).1) h2;cases ps with
 |nil=>
  have e:(rd s).l=c::l':=h2.emp;rw[jK]at hd;subst hd;exact he s hj e fun s' g1 g2 g3=>hX s' g2 (by rw[g1];exact g0) g3
 |cons q ps=>
  rw[List.map_cons,List.flatten_cons]at h2;obtain⟨k2,e4,e5⟩:=h2.app
  have hEl:El k2:=by
   obtain⟨u,k,g1,g2⟩:=next_s (fun q hq=>(hps q (by simp[hq])).1) e5;refine⟨u,k,g1,?_⟩
   rcases g2 with⟨_,rfl,_⟩|⟨w,hw,hk⟩
   . exact hc
   . exact hw.ff hk (by decide)
  obtain⟨w,us,hw,hh⟩:=(hps q (by simp)).1.fst
  have hk:Kt u w:=by
   rw[hw]at e4;obtain⟨u',k',g1,g2,_⟩:=e4.one;rw[g1]at e1;cases e1;exact g2
  refine hb s u k hj e1 ⟨w,hh,hk⟩ (fun e=>hE e) ((hps q (by simp)).2 n (rd s) k2 e4 hEl) fun z s' hz hj' g1 g2=>?_;refine⟨hj',done++[q],ps,by rw[qS];exact hd,?_,by rw[g2,hz.2];exact e5⟩;rw[g1,jC];exact g0.app (Fl.one hz.1)
theorem X6e{n:Nat}{qs:List (V8×Tts)}(hq:Sl qs){r:Z0}{l':List Y8}(ht:TL r.l (Z2i (qs.map (·.2))) l'):Hc ((Q5s n).G7 r) (Oe fun z=>Fl EqS (qs.map (·.1)) z.1/\z.2.l=l'):=by
 obtain⟨t,k,e1,e2,e3⟩:=ht.one;obtain⟨k2,e4,e5⟩:=e3.app;obtain⟨c,k3,rfl,e6,e7⟩:=e5.one;obtain rfl:=e7.emp;cases n with
 |zero=>exact Hc.no
 |succ n=>
  show Hc (I9 (Q5s n) r) _;unfold I9;obtain⟨r1,f1,f2⟩:=Q5f e1 e2;refine Hc.st f1 ?_;refine X5h (n:=n) (c:=c) (l':=k3) (fun s=>s.1) (fun s=>s.2) (fun _=>True) k3 (ffd e6) ?_ ?_ NN ([],r1) qs trivial hq rfl (by dsimp only;rw[f2];exact e4) (fun e=>Hc.ok trivial) ?_
  . rintro⟨a,r⟩ u k _ g1 ⟨w,hw,hk⟩ Q hE T hT hg
    dsimp only at g1⊢
    rw[Q7m g1 (hw.ff hk (by decide)),qV];exact Hc.bx hT (fun z hz=>Hc.sk fun _=>Hc.ok (hg z _ hz trivial rfl rfl)) fun x=>Hc.ok (hE _)
  . rintro⟨a,r⟩ _ g1 Q hg
    dsimp only at g1⊢
    obtain⟨r2,f3,f4⟩:=Q6r g1 e6;rw[f3,qV];exact Hc.ok (hg _ rfl trivial f4)
  . rintro⟨a,r⟩ _ g1 g2;exact Hc.ok ⟨g1,g2⟩
theorem eqSq{k:Int}{p q:Pos}{A A' B B' C C':List Z5}{V V':List J2}{S S' E E':List V8}{D D':List R5}(a:Fl EqE A A')(b:Fl EqE B B')(c:Fl EqE C C')(v:Fl EqV V V')(s:Fl EqS S S')(e:Fl EqS E E')(d:Fl EqC D D'):EqS ⟨k,p,A,B,C,V,S,E,D⟩ ⟨k,q,A',B',C',V',S',E',D'⟩:=
 .mk rfl a b c v s.1 s.2 e.1 e.2 d.1 (fun i x y hx hy=>⟨(d.2 i x y hx hy).d,(d.2 i x y hx hy).n,(d.2 i x y hx hy).bs.1⟩) (fun i x y hx hy=>(d.2 i x y hx hy).bs.2)
section
variable{n:Nat}{r:Z0}{l':List Y8}{u:Y8}{k:List Y8}{w:Aa}
theorem st_blk{qs:List (V8×Tts)}(hq:Sl qs)(ht:TL r.l (Z2i (qs.map (·.2))) l')(p:Pos):Hc ((Q5s n).J1 r) (Oe fun z=>(z.1.Kind=11/\Fl EqS (qs.map (·.1)) z.1.Body/\EqS ⟨11,p,[],[],[],[],qs.map (·.1),[],[]⟩ z.1)/\z.2.l=l'):=by
 obtain⟨t,k,e1,e2,e3⟩:=ht.one;cases n with
 |zero=>exact Hc.no
 |succ n=>
  show Hc (V0 (Q5s n) r) _;unfold V0;refine Hc.bx Q8l fun r1 h1=>Hc.sk fun q=>?_
  dsimp only[jn]
  rw[Y6i (h1.trans e1) (fun s hs=>Z2d e2 (fun e=>by rw[<-e]at hs;revert hs;decide)),qV,Aj,is_m (h1.trans e1) e2,qV,Ak];exact Hc.bx (X6e hq (r:=r1) (by rw[h1];exact ht)) fun z hz=>Hc.ok ⟨⟨rfl,hz.1,eqSq Fl.nil Fl.nil Fl.nil Fl.nil hz.1 Fl.nil Fl.nil⟩,hz.2⟩
theorem Y5h{qs:List (V8×Tts)}(hq:Sl qs)(ht:TL r.l (Z2i (qs.map (·.2))) l'):Hc ((Q5s n).J9 r) (Oe fun z=>Fl EqS (qs.map (·.1)) z.1/\z.2.l=l'):=by
 cases n with
 |zero=>exact Hc.no
 |succ n=>
  show Hc (R9 (Q5s n) r) _;unfold R9;refine Hc.bx (st_blk hq ht ⟨0,0⟩) fun z hz=>?_;rw[hz.1.1];exact Hc.ok ⟨hz.1.2.1,hz.2⟩
theorem X0o{m:Aa}{as:List (Z5×Tts)}(ha:∀q∈as,WE q.1 q.2)(hl:as.length<=1)(hm:m∈Z9f)(hm2:m∈Q0f/\m∉Z2o/\m∉hdL){ts:Tts}(ht:TL r.l (sep (as.map (·.2))++m::ts) l'):∃k,TL k ts l'/\Hc (B6 r m) (Oe fun z=>Fl EqE (as.map (·.1)) z.1/\z.2.l=k):=by
 obtain⟨k1,e1,e2⟩:=ht.app;obtain⟨c,k2,rfl,e3,e4⟩:=e2.one;refine⟨k2,e4,?_⟩;unfold B6;have hc:=e3.four hm2.1;cases as with
 |nil=>
  have e:=e1.emp;obtain⟨r1,f1,f2⟩:=Z4u e e3.tx (.inr hc);exact Hc.st f1 (Hc.ok ⟨Fl.nil,f2⟩)
 |cons q as=>
  simp only[qY]at hl
  obtain rfl:as=[]:=List.length_eq_zero_iff.1 (by omega);rw[Y3u,show Ws []=[]from rfl,jK]at e1;obtain⟨s,us,hs,hh⟩:=(ha q (by simp)).fst
  have hfst:∃u v,r.l=u::v/\Kt u s:=by
   rw[hs]at e1;obtain⟨u,v,g1,g2,_⟩:=e1.one;exact⟨u,v,g1,g2⟩
  obtain⟨u,v,g1,g2⟩:=hfst;refine Hc.st (Q7m g1 (hh.ff g2 hm2.2.2)) ?_;rw[Aj];exact Hc.bx (Z5k (ha q (by simp)) r (c::k2) e1 ⟨c,k2,rfl,hc,by rw[e3.tx];exact hm⟩) fun z hz=>Hc.bx (mq hz e3.tx hc hm2.2.1) fun r2 h2=>Hc.ok ⟨Fl.one h2.1,h2.2⟩
theorem X3k{x:Z5}{ts:Tts}(h:WE x ts){us:Tts}(ht:TL r.l ([40]::(ts++[41]::us)) l'):∃k,TL k us l'/\Hc (U1 r) (Oe fun z=>Fl EqE [x] z.1/\z.2.l=k):=by
 obtain⟨k,e1,e2⟩:=TL.app (ts:=[40]::(ts++[[41]])) (us:=us) (by simpa using ht);exact⟨k,e2,br_r (back h).1 e1⟩
end
theorem cases_r{n:Nat}{r:Z0}{l':List Y8}{cs:List Cq}(hc:∀c∈cs,U32 c.1.2.2/\(c.1.2.1=true->c.1.2.2=0))(hq:∀c∈cs,Sl c.2)(ht:TL r.l (Z2i (cs.map tsC)) l'):Hc ((Q5s n).N9 r) (Oe fun z=>Fl EqC (cs.map mkC) z.1/\z.2.l=l'):=by
 obtain⟨t,k,e1,e2,e3⟩:=ht.one;obtain⟨k2,e4,e5⟩:=e3.app;obtain⟨c,k3,rfl,e6,e7⟩:=e5.one;obtain rfl:=e7.emp;cases n with
 |zero=>exact Hc.no
 |succ n=>
  show Hc (I8 (Q5s n) r) _;unfold I8;obtain⟨r1,f1,f2⟩:=Q5f e1 e2;refine Hc.st f1 ?_;refine Hc.lp (fun s=>∃done ps,done++ps=cs/\Fl EqC (done.map mkC) s.1/\TL s.2.l (ps.map tsC).flatten (c::k3)) ?_ NN _ ⟨[],cs,rfl,Fl.nil,by dsimp only;rw[f2];exact e4⟩;rintro⟨a,r⟩ ⟨done,ps,hd,g0,h2⟩
  dsimp only at g0 h2⊢
  cases ps with
  |nil=>
   have e:r.l=c::k3:=h2.emp;obtain⟨r2,f3,f4⟩:=Q6r e e6;rw[jK]at hd;subst hd;rw[f3,qV];exact Hc.ok (Hc.ok ⟨g0,f4⟩)
  |cons x ps=>
   obtain⟨⟨p,d,m⟩,qs⟩:=x;have hx:=hc ((p,d,m),qs) (by rw[<-hd];simp);have hqs:Sl qs:=hq ((p,d,m),qs) (by rw[<-hd];simp);rw[List.map_cons,List.flatten_cons]at h2;obtain⟨k4,e8,e9⟩:=h2.app;obtain⟨k5,e10,e11⟩:=e8.app;obtain⟨v,k6,rfl,e12,e13⟩:=e11.one;have hv4:v.Kind=4:=e12.f4
   have hlast:∃z zs,k4=z::zs/\Ff z Y8a/\(z=c/\zs=k3\/Kt z X3i\/Kt z Y8b):=by
    cases ps with
    |nil=>exact⟨c,k3,e9.emp,ffd e6,.inl ⟨rfl,rfl⟩⟩
    |cons y ps=>
     rw[List.map_cons,List.flatten_cons]at e9;obtain⟨k7,e14,e15⟩:=e9.app;obtain⟨k8,e16,e17⟩:=e14.app;unfold lab at e16;cases hy:y.1.2.1 with
     |true=>
      rw[hy,Ak]at e16;obtain⟨z,zs,g1,g2,_⟩:=e16.one;exact⟨z,zs,g1,ffd g2,.inr (.inr g2)⟩
     |false=>
      rw[hy,Aj]at e16;obtain⟨z,zs,g1,g2,_⟩:=e16.one;exact⟨z,zs,g1,ffd g2,.inr (.inl g2)⟩
   obtain⟨z,zs,rfl,hz1,hz2⟩:=hlast;have fin:∀(q:Pos)(b:List V8)(r':Z0),Fl EqS (qs.map (·.1)) b->r'.l=z::zs->∃done ps,done++ps=cs/\Fl EqC (done.map mkC) (a++[(⟨q,d,m,b⟩:R5)])/\TL r'.l (ps.map tsC).flatten (c::k3):=fun q b r' hb hr=>⟨done++[((p,d,m),qs)],ps,by rw[qS];exact hd,by rw[jC];exact g0.app (Fl.one ⟨rfl,rfl,hb⟩),by rw[hr];exact e9⟩;unfold lab at e10
   have hlab:∃u k7,r.l=u::k7/\Ff u [125]:=by
    cases d with
    |true=>
     obtain⟨u,k7,g1,g2,_⟩:=e10.one;exact⟨u,k7,g1,ffd g2⟩
    |false=>
     obtain⟨u,k7,g1,g2,_⟩:=e10.one;exact⟨u,k7,g1,ffd g2⟩
   obtain⟨u0,k0,g0',hff⟩:=hlab;rw[Q7m g0' hff,qV,Bool.not_false,Ak];refine Hc.sk fun q=>Hc.j2 (fun c r'=>c.Default=d/\c.Num=m/\c.Body=[]/\r'.l=v::k6) (fun x4 x5 h45=>?_) fun kk hk=>?_
   . obtain⟨r2,f3,f4⟩:=Q5f h45.2.2.2 e12;refine Hc.st f3 ?_;refine X5h (n:=n) (c:=z) (l':=zs) (fun s=>s.1.Body) (fun s=>s.2) (fun s=>s.1.Default=d/\s.1.Num=m) (z::zs) hz1 ?_ ?_ NN _ qs ⟨h45.1,h45.2.1⟩ hqs h45.2.2.1 (by dsimp only;rw[f4];exact e13) (fun e=>Hc.ok (Hc.ok trivial)) ?_
     . rintro⟨b,r⟩ u k hj g1 ⟨w,hw,hk⟩ Q hE T hT hg
       dsimp only at g1⊢
       rw[Y6f g1 (hw.ff hk (by decide)),qV,Bool.not_false,Ak,Y6f g1 (hw.ff hk (by decide)),qV,Bool.not_false,Ak,Y6f g1 (hw.ff hk (by decide)),qV,Bool.not_false,Ak];exact Hc.bx hT (fun y hy=>Hc.sk fun _=>Hc.ok (hg y _ hy hj rfl rfl)) fun x=>Hc.ok (hE _)
     . rintro⟨b,r⟩ hj g1 Q hg
       dsimp only at g1⊢
       have hgo:Q (.brk (b,r)):=hg _ rfl hj g1
       rcases hz2 with⟨rfl,rfl⟩|hz2|hz2
       . rw[Y6f g1 (ffd e6),qV,Bool.not_false,Ak,Y6f g1 (ffd e6),qV,Bool.not_false,Ak,is_m g1 e6];exact Hc.ok hgo
       . rw[is_m (s:=[99,97,115,101]) g1 hz2];exact Hc.ok hgo
       . rw[Y6f g1 (ffd hz2),qV,Bool.not_false,Ak,is_m (s:=[100,101,102,97,117,108,116]) g1 hz2];exact Hc.ok hgo
     . rintro⟨⟨b1,b2,b3,b4⟩,r⟩ ⟨j1,j2⟩ g1 g2
       dsimp only at j1 j2
       subst j1 j2;exact Hc.sk fun _=>Hc.ok (fin b1 b4 r g1 g2)
   cases d with
   |true=>
    rw[Ak]at e10;obtain⟨u,k7,g1,g2,g3⟩:=e10.one;obtain⟨r2,f3,f4⟩:=Q6r (s:=[100,101,102,97,117,108,116]) g1 g2;rw[f3,qV,Ak];exact hk _ _ ⟨rfl,(hx.2 rfl).symm,rfl,f4.trans g3.emp⟩
   |false=>
    rw[Aj]at e10;obtain⟨u,k7,g1,g2,g3⟩:=e10.one;obtain⟨u2,k8,rfl,g5,g6⟩:=g3.one;have hnum:=g5.at (Y2j hx.1);obtain⟨r2,f3,f4⟩:=Q5f (s:=[99,97,115,101]) g1 g2;obtain⟨r3,f5,f6⟩:=X0y f4 hnum.1;rw[tkf g1 (ffd g2)];refine Hc.st f3 ?_;show Hc ((Y6 r2 [45]).bind _) _;rw[Q7m f4 (Y5d g5 (Y2j hx.1)),qV];exact Hc.st f5 (hk _ _ ⟨rfl,hnum.2,rfl,f6.trans g6.emp⟩)
section
variable{r:Z0}{u:Y8}{k:List Y8}
theorem Z7k{w:Aa}(h:r.l=u::k)(hw:Kt u w)(hs:w∉Q1z::Z3z):P0 r=some false:=Y6i h fun s hs'=>Z2d hw fun e=>hs (e▸hs')
theorem sb_expr{p:Pos}{x:Z5}{ts:Tts}(h:WE x ts):Sb ⟨1,p,[x],[],[],[],[],[],[]⟩ (ts++[[59]]):=by
 intro n r l' ht _;cases n with
 |zero=>exact Hc.no
 |succ n=>
  obtain⟨k1,e1,e2⟩:=ht.app;obtain⟨c,k2,rfl,e3,e4⟩:=e2.one;obtain rfl:=e4.emp;obtain⟨s,us,hs,hh⟩:=h.fst
  have hfst:∃u v,r.l=u::v/\Kt u s:=by
   rw[hs]at e1;obtain⟨u,v,g1,g2,_⟩:=e1.one;exact⟨u,v,g1,g2⟩
  obtain⟨u,v,g1,g2⟩:=hfst;show Hc (V0 (Q5s n) r) _;unfold V0;refine Hc.bx Q8l fun r1 h1=>Hc.sk fun q=>?_;have g:=h1.trans g1;have ff:∀m,m∉hdL->Y6 r1 m=some (false,r1):=fun m hm=>Q7m g (hh.ff g2 hm)
  dsimp only[jn]
  rw[Y6i g (fun s hs=>hh.ff g2 ((by decide:∀s∈Q1z::Z3z,s∉hdL) s hs)),qV,Aj,isf g (hh.ff g2 (by decide)),ff _ (by decide),qV,Aj,ff _ (by decide),qV,Aj,ff _ (by decide),qV,Aj,ff _ (by decide),qV,Aj,ff _ (by decide),qV,Aj,ff _ (by decide),qV,Aj];unfold N7;rw[ff _ (by decide),qV,Aj,ff _ (by decide),qV,Aj,ff _ (by decide),qV,Aj];refine Hc.bx (T:=fun z=>EqS ⟨1,p,[x],[],[],[],[],[],[]⟩ z.2/\z.1.l=k2) (Hc.bx (Z5k (q:=(x,ts)) h r1 (c::k2) (by rw[h1];exact e1) ⟨c,k2,rfl,e3.f4,by rw[e3.tx];decide⟩) fun z hz=>Hc.bx (mq (m:=[59]) hz e3.tx (e3.f4) (by decide)) fun r2 h2=>Hc.ok ⟨eqSq (Fl.one h2.1) Fl.nil Fl.nil Fl.nil Fl.nil Fl.nil Fl.nil,h2.2⟩) fun z hz=>Hc.ok hz
theorem sb_var{p:Pos}{v:J2}{ts:Tts}(h:WV v ts):Sb ⟨2,p,[],[],[],[v],[],[],[]⟩ (ts++[[59]]):=by
 intro n r l' ht _;cases n with
 |zero=>exact Hc.no
 |succ n=>
  have hf:∃s us,ts=s::us/\(s∈Z3z\/s=Q1z):=by
   cases h with
   |mk hw hs hd hi hb hc=>
    obtain⟨s,us,rfl,h⟩:=hw.fst;exact⟨_,_,rfl,h⟩
  obtain⟨s,us,hs,hh⟩:=hf
  have hfst:∃u v,r.l=u::v/\Kt u s:=by
   rw[hs]at ht;obtain⟨u,v,g1,g2,_⟩:=TL.one (s:=s) (ts:=us++[[59]]) ht;exact⟨u,v,g1,g2⟩
  obtain⟨u,v',g1,g2⟩:=hfst;show Hc (V0 (Q5s n) r) _;unfold V0;refine Hc.bx Q8l fun r1 h1=>Hc.sk fun q=>?_
  dsimp only[jn]
  rw[X0f (h1.trans g1) g2 hh,qV,Ak];exact Hc.bx (X3w h (r:=r1) (by rw[h1];exact ht)) fun z hz=>Hc.ok ⟨eqSq Fl.nil Fl.nil Fl.nil (Fl.one hz.1) Fl.nil Fl.nil Fl.nil,hz.2⟩
end
section
variable{n:Nat}{r:Z0}{l':List Y8}
theorem sb_iff{p:Pos}{x:Z5}{ts:Tts}{qs:List (V8×Tts)}(h:WE x ts)(hq:Sl qs):Sb ⟨3,p,[x],[],[],[],qs.map (·.1),[],[]⟩ (ifW::[40]::(ts++[41]::Z2i (qs.map (·.2)))):=by
 intro n r l' ht hE;obtain⟨u,k,e1,e2,e3⟩:=ht.one;cases n with
 |zero=>exact Hc.no
 |succ n=>
  show Hc (V0 (Q5s n) r) _;unfold V0;refine Hc.bx Q8l fun r1 h1=>Hc.sk fun q=>?_;have g:=h1.trans e1;have w2:u.Kind=2:=e2.t2
  dsimp only[jn]
  obtain⟨r2,f1,f2⟩:=Z4u (m:=[105,102]) g e2.tx (.inl w2);obtain⟨k2,e4,e5⟩:=X3k (r:=r2) h (by rw[f2];exact e3);rw[Z7k g e2 (by decide),qV,Aj,isf g (ffd e2),tkf g (ffd e2),f1,qV,Ak];refine Hc.bx e5 fun z hz=>Hc.bx (Y5h hq (r:=z.2) (by rw[hz.2];exact e4)) fun y hy=>?_;obtain⟨v,k3,g1,g2⟩:=hE;rw[tkf (m:=[101,108,115,101]) (hy.2.trans g1) g2];exact Hc.ok ⟨eqSq hz.1 Fl.nil Fl.nil Fl.nil hy.1 Fl.nil Fl.nil,hy.2⟩
theorem sb_els{p:Pos}{x:Z5}{ts:Tts}{qs rs:List (V8×Tts)}(h:WE x ts)(hq:Sl qs)(hr:Sl rs):Sb ⟨3,p,[x],[],[],[],qs.map (·.1),rs.map (·.1),[]⟩ (ifW::[40]::(ts++[41]::(Z2i (qs.map (·.2))++Y8a::Z2i (rs.map (·.2))))):=by
 intro n r l' ht hE;obtain⟨u,k,e1,e2,e3⟩:=ht.one;cases n with
 |zero=>exact Hc.no
 |succ n=>
  show Hc (V0 (Q5s n) r) _;unfold V0;refine Hc.bx Q8l fun r1 h1=>Hc.sk fun q=>?_;have g:=h1.trans e1;have w2:u.Kind=2:=e2.t2
  dsimp only[jn]
  obtain⟨r2,f1,f2⟩:=Z4u (m:=[105,102]) g e2.tx (.inl w2);obtain⟨k2,e4,e5⟩:=X3k (r:=r2) h (by rw[f2];exact e3);obtain⟨k3,e6,e7⟩:=e4.app;obtain⟨v,k4,rfl,e8,e9⟩:=e7.one;rw[Z7k g e2 (by decide),qV,Aj,isf g (ffd e2),tkf g (ffd e2),f1,qV,Ak];refine Hc.bx e5 fun z hz=>Hc.bx (Y5h hq (r:=z.2) (by rw[hz.2];exact e6)) fun y hy=>?_;obtain⟨r3,f3,f4⟩:=Q6r (s:=[101,108,115,101]) hy.2 e8;rw[f3,qV,Ak];exact Hc.bx (Y5h hr (r:=r3) (by rw[f4];exact e9)) fun y2 hy2=>Hc.ok ⟨eqSq hz.1 Fl.nil Fl.nil Fl.nil hy.1 hy2.1 Fl.nil,hy2.2⟩
theorem sb_whl{p:Pos}{x:Z5}{ts:Tts}{qs:List (V8×Tts)}(h:WE x ts)(hq:Sl qs):Sb ⟨4,p,[x],[],[],[],qs.map (·.1),[],[]⟩ (Y2u::[40]::(ts++[41]::Z2i (qs.map (·.2)))):=by
 intro n r l' ht hE;obtain⟨u,k,e1,e2,e3⟩:=ht.one;cases n with
 |zero=>exact Hc.no
 |succ n=>
  show Hc (V0 (Q5s n) r) _;unfold V0;refine Hc.bx Q8l fun r1 h1=>Hc.sk fun q=>?_;have g:=h1.trans e1;have w2:u.Kind=2:=e2.t2
  dsimp only[jn]
  obtain⟨r2,f1,f2⟩:=Z4u (m:=[119,104,105,108,101]) g e2.tx (.inl w2);obtain⟨k2,e4,e5⟩:=X3k (r:=r2) h (by rw[f2];exact e3);rw[Z7k g e2 (by decide),qV,Aj,isf g (ffd e2),tkf g (ffd e2),tkf g (ffd e2),f1,qV,Ak];exact Hc.bx e5 fun z hz=>Hc.bx (Y5h hq (r:=z.2) (by rw[hz.2];exact e4)) fun y hy=>Hc.ok ⟨eqSq hz.1 Fl.nil Fl.nil Fl.nil hy.1 Fl.nil Fl.nil,hy.2⟩
theorem sb_doo{p:Pos}{x:Z5}{ts:Tts}{qs:List (V8×Tts)}(h:WE x ts)(hq:Sl qs):Sb ⟨5,p,[x],[],[],[],qs.map (·.1),[],[]⟩ (doW::(Z2i (qs.map (·.2))++Y2u::[40]::(ts++[[41],[59]]))):=by
 intro n r l' ht hE;obtain⟨u,k,e1,e2,e3⟩:=ht.one;obtain⟨k2,e4,e5⟩:=e3.app;obtain⟨v,k3,rfl,e6,e7⟩:=e5.one;cases n with
 |zero=>exact Hc.no
 |succ n=>
  show Hc (V0 (Q5s n) r) _;unfold V0;refine Hc.bx Q8l fun r1 h1=>Hc.sk fun q=>?_;have g:=h1.trans e1;have w2:u.Kind=2:=e2.t2
  dsimp only[jn]
  obtain⟨r2,f1,f2⟩:=Z4u (m:=[100,111]) g e2.tx (.inl w2);rw[Z7k g e2 (by decide),qV,Aj,isf g (ffd e2),tkf g (ffd e2),tkf g (ffd e2),tkf g (ffd e2),f1,qV,Ak];refine Hc.bx (Y5h hq (r:=r2) (by rw[f2];exact e4)) fun y hy=>?_;obtain⟨r3,f3,f4⟩:=Q5f (s:=[119,104,105,108,101]) hy.2 e6;obtain⟨k4,e8,e9⟩:=X3k (r:=r3) (us:=[[59]]) h (by rw[f4];exact e7);obtain⟨c,k5,rfl,e10,e11⟩:=e8.one;refine Hc.st f3 (Hc.bx e9 fun z hz=>?_);obtain⟨r4,f5,f6⟩:=Q5f (s:=[59]) hz.2 e10;exact Hc.st f5 (Hc.ok ⟨eqSq hz.1 Fl.nil Fl.nil Fl.nil hy.1 Fl.nil Fl.nil,f6.trans e11.emp⟩)
theorem sb_for{p:Pos}{as bs cs:List (Z5×Tts)}{qs:List (V8×Tts)}(ha:∀q∈as,WE q.1 q.2)(hb:∀q∈bs,WE q.1 q.2)(hc:∀q∈cs,WE q.1 q.2)(la:as.length<=1)(lb:bs.length<=1)(lc:cs.length<=1)(hq:Sl qs):Sb ⟨6,p,as.map (·.1),bs.map (·.1),cs.map (·.1),[],qs.map (·.1),[],[]⟩ (forW::[40]::(sep (as.map (·.2))++[59]::(sep (bs.map (·.2))++[59]::(sep (cs.map (·.2))++[41]::Z2i (qs.map (·.2)))))):=by
 intro n r l' ht hE;obtain⟨u,k,e1,e2,e3⟩:=ht.one;obtain⟨v,k2,rfl,e4,e5⟩:=e3.one;cases n with
 |zero=>exact Hc.no
 |succ n=>
  show Hc (V0 (Q5s n) r) _;unfold V0;refine Hc.bx Q8l fun r1 h1=>Hc.sk fun q=>?_;have g:=h1.trans e1;have w2:u.Kind=2:=e2.t2
  dsimp only[jn]
  obtain⟨r2,f1,f2⟩:=Z4u (m:=[102,111,114]) g e2.tx (.inl w2);rw[Z7k g e2 (by decide),qV,Aj,isf g (ffd e2),tkf g (ffd e2),tkf g (ffd e2),tkf g (ffd e2),tkf g (ffd e2),f1,qV,Ak];obtain⟨r3,f3,f4⟩:=Q5f (s:=[40]) f2 e4;refine Hc.st f3 ?_;obtain⟨k3,e6,e7⟩:=X0o (r:=r3) ha la (by decide:([59]:Aa)∈Z9f) (by decide) (by rw[f4];exact e5);refine Hc.bx e7 fun z hz=>?_;obtain⟨k4,e8,e9⟩:=X0o (r:=z.2) hb lb (by decide:([59]:Aa)∈Z9f) (by decide) (by rw[hz.2];exact e6);refine Hc.bx e9 fun z2 hz2=>?_;obtain⟨k5,e10,e11⟩:=X0o (r:=z2.2) hc lc (by decide:([41]:Aa)∈Z9f) (by decide) (by rw[hz2.2];exact e8);refine Hc.bx e11 fun z3 hz3=>?_;exact Hc.bx (Y5h hq (r:=z3.2) (by rw[hz3.2];exact e10)) fun y hy=>Hc.ok ⟨eqSq hz.1 hz2.1 hz3.1 Fl.nil hy.1 Fl.nil Fl.nil,hy.2⟩
theorem sb_swi{p:Pos}{x:Z5}{ts:Tts}{cs:List Cq}(h:WE x ts)(hc:∀c∈cs,U32 c.1.2.2/\(c.1.2.1=true->c.1.2.2=0))(hq:∀c∈cs,Sl c.2):Sb ⟨7,p,[x],[],[],[],[],[],cs.map mkC⟩ (Y6j::[40]::(ts++[41]::Z2i (cs.map tsC))):=by
 intro n r l' ht hE;obtain⟨u,k,e1,e2,e3⟩:=ht.one;cases n with
 |zero=>exact Hc.no
 |succ n=>
  show Hc (V0 (Q5s n) r) _;unfold V0;refine Hc.bx Q8l fun r1 h1=>Hc.sk fun q=>?_;have g:=h1.trans e1;have w2:u.Kind=2:=e2.t2
  dsimp only[jn]
  obtain⟨r2,f1,f2⟩:=Z4u (m:=[115,119,105,116,99,104]) g e2.tx (.inl w2);obtain⟨k2,e4,e5⟩:=X3k (r:=r2) h (by rw[f2];exact e3);rw[Z7k g e2 (by decide),qV,Aj,isf g (ffd e2),tkf g (ffd e2),tkf g (ffd e2),tkf g (ffd e2),tkf g (ffd e2),tkf g (ffd e2),f1,qV,Ak];exact Hc.bx e5 fun z hz=>Hc.bx (cases_r hc hq (r:=z.2) (by rw[hz.2];exact e4)) fun y hy=>Hc.ok ⟨eqSq hz.1 Fl.nil Fl.nil Fl.nil Fl.nil Fl.nil hy.1,hy.2⟩
theorem Y6y{x:V8}{w:Aa}{ts:Tts}(hw:w∈[Z4e,Z8o,Y4p])(h:∀(r:Z0) l' q,TL r.l (w::ts) l'->Hc (N7 r ⟨0,q,[],[],[],[],[],[],[]⟩) (Oe fun z=>EqS x z.2/\z.1.l=l')):Sb x (w::ts):=by
 intro n r l' ht hE;obtain⟨u,k,e1,e2,e3⟩:=ht.one;cases n with
 |zero=>exact Hc.no
 |succ n=>
  show Hc (V0 (Q5s n) r) _;unfold V0;refine Hc.bx Q8l fun r1 h1=>Hc.sk fun q=>?_;have g:=h1.trans e1;have no:∀m:Aa,m∉[Z4e,Z8o,Y4p]->Ff u m:=fun m hm=>Z2d e2 fun e=>hm (e▸hw);have nt:∀m:Aa,m∉[Z4e,Z8o,Y4p]->Y6 r1 m=some (false,r1):=fun m hm=>Q7m g (no m hm)
  dsimp only[jn]
  rw[Y6i g (fun s hs=>no s ((by decide:∀s∈Q1z::Z3z,s∉[Z4e,Z8o,Y4p]) s hs)),qV,Aj,isf g (no _ (by decide)),nt _ (by decide),qV,Aj,nt _ (by decide),qV,Aj,nt _ (by decide),qV,Aj,nt _ (by decide),qV,Aj,nt _ (by decide),qV,Aj,nt _ (by decide),qV,Aj];exact Hc.bx (h r1 l' q (by rw[h1];exact ht)) fun z hz=>Hc.ok hz
theorem sb_ret{p:Pos}{as:List (Z5×Tts)}(ha:∀q∈as,WE q.1 q.2)(la:as.length<=1):Sb ⟨8,p,as.map (·.1),[],[],[],[],[],[]⟩ (Z4e::(sep (as.map (·.2))++[[59]])):=by
 refine Y6y (by decide) fun r l' q ht=>?_;obtain⟨u,k,e1,e2,e3⟩:=ht.one;obtain⟨r1,f1,f2⟩:=Q6r (s:=[114,101,116,117,114,110]) e1 e2;obtain⟨k2,e4,e5⟩:=X0o (r:=r1) (ts:=[]) ha la (by decide:([59]:Aa)∈Z9f) (by decide) (by rw[f2];exact e3);unfold N7;rw[f1,qV,Ak];exact Hc.bx e5 fun z hz=>Hc.ok ⟨eqSq hz.1 Fl.nil Fl.nil Fl.nil Fl.nil Fl.nil Fl.nil,hz.2.trans e4.emp⟩
theorem sb_brk{p:Pos}:Sb ⟨9,p,[],[],[],[],[],[],[]⟩ [Z8o,[59]]:=by
 refine Y6y (by decide) fun r l' q ht=>?_;obtain⟨u,k,e1,e2,e3⟩:=ht.one;obtain⟨c,k2,rfl,e4,e5⟩:=e3.one;obtain⟨r1,f1,f2⟩:=Q6r (s:=[98,114,101,97,107]) e1 e2;obtain⟨r2,f3,f4⟩:=Q5f (s:=[59]) f2 e4;unfold N7;rw[tkf e1 (ffd e2),f1,qV,Ak];exact Hc.st f3 (Hc.ok ⟨eqSq Fl.nil Fl.nil Fl.nil Fl.nil Fl.nil Fl.nil Fl.nil,f4.trans e5.emp⟩)
theorem sb_cnt{p:Pos}:Sb ⟨10,p,[],[],[],[],[],[],[]⟩ [Y4p,[59]]:=by
 refine Y6y (by decide) fun r l' q ht=>?_;obtain⟨u,k,e1,e2,e3⟩:=ht.one;obtain⟨c,k2,rfl,e4,e5⟩:=e3.one;obtain⟨r1,f1,f2⟩:=Q6r (s:=[99,111,110,116,105,110,117,101]) e1 e2;obtain⟨r2,f3,f4⟩:=Q5f (s:=[59]) f2 e4;unfold N7;rw[tkf e1 (ffd e2),tkf e1 (ffd e2),f1,qV,Ak];exact Hc.st f3 (Hc.ok ⟨eqSq Fl.nil Fl.nil Fl.nil Fl.nil Fl.nil Fl.nil Fl.nil,f4.trans e5.emp⟩)
theorem sb_emp{p:Pos}:Sb ⟨12,p,[],[],[],[],[],[],[]⟩ [[59]]:=by
 intro n r l' ht hE;obtain⟨u,k,e1,e2,e3⟩:=ht.one;cases n with
 |zero=>exact Hc.no
 |succ n=>
  show Hc (V0 (Q5s n) r) _;unfold V0;refine Hc.bx Q8l fun r1 h1=>Hc.sk fun q=>?_;have g:=h1.trans e1
  dsimp only[jn]
  obtain⟨r2,f1,f2⟩:=Q6r (s:=[59]) g e2;rw[Z7k g e2 (by decide),qV,Aj,isf g (ffd e2),f1,qV,Ak];exact Hc.ok ⟨eqSq Fl.nil Fl.nil Fl.nil Fl.nil Fl.nil Fl.nil Fl.nil,f2.trans e3.emp⟩
end
theorem eqS_pos{k:Int}{p q:Pos}{A B C:List Z5}{V:List J2}{S E:List V8}{D:List R5}{y:V8}(h:EqS ⟨k,p,A,B,C,V,S,E,D⟩ y):EqS ⟨k,q,A,B,C,V,S,E,D⟩ y:=match h with| .mk a b c d e f g h i j k l=> .mk a b c d e f g h i j k l
theorem sback{x:V8}{ts:Tts}(h:WS x ts):Sb x ts:=by
 induction h with
 |expr h=>exact sb_expr h
 |var h=>exact sb_var h
 |iff h k ih=>exact sb_iff h fun q hq=>⟨k q hq,ih q hq⟩
 |els h k j hr ih ij=>exact sb_els h (fun q hq=>⟨k q hq,ih q hq⟩) fun q hq=>⟨j q hq,ij q hq⟩
 |whl h k ih=>exact sb_whl h fun q hq=>⟨k q hq,ih q hq⟩
 |doo h k ih=>exact sb_doo h fun q hq=>⟨k q hq,ih q hq⟩
 |forr ha hb hc la lb lc k ih=>exact sb_for ha hb hc la lb lc fun q hq=>⟨k q hq,ih q hq⟩
 |swi h hc k ih=>exact sb_swi h hc fun c hcm q hq=>⟨k c hcm q hq,ih c hcm q hq⟩
 |ret ha la=>exact sb_ret ha la
 |brk=>exact sb_brk
 |cnt=>exact sb_cnt
 |bl k ih=>exact fun n r l' ht _=>(st_blk (fun q hq=>⟨k q hq,ih q hq⟩) ht ⟨0,0⟩).oe fun z hz=>⟨by obtain⟨h1,h2⟩:=hz;exact eqS_pos h1.2.2,hz.2⟩
 |emp=>exact sb_emp
theorem peek_t{r:Z0}{k:Int}{t:Y8}{m:Aa}(h0:k<(qQ r.l:Int))(h:idx r.l k=some t)(hm:t.Text=m)(hk:t.Kind=4):P1 r k m=some true:=by
 unfold P1;rw[c1 (dt h0),h]
 simp only[qV]
 rw[c1 (dt hm),hk]
 rfl
theorem peek_f{r:Z0}{k:Int}{t:Y8}{m:Aa}(h:idx r.l k=some t)(hm:t.Text≠m):P1 r k m=some false:=by
 unfold P1;rw[h,qV,c0 (df hm)];cases decide (k<(qQ r.l:Int))<;>rfl
theorem WV.bare{v:J2}{ts:Tts}(h:WV v ts)(hi:v.Init=[])(hb:v.Brace=false):∃p t tt s ds,v=⟨p,t,s,ds,[],false⟩/\ts=tt++s::Y1g ds/\WT t tt/\Nm s/\∀d∈ds,U32 d:=by
 cases h with
 |@mk p t tt s ds b ps ht hs hd hi' hb' hc=>
  obtain rfl:ps=[]:=List.map_eq_nil_iff.1 hi;obtain rfl:b=false:=hb;exact⟨p,t,tt,s,ds,rfl,by simp[iniT],ht,hs,hd⟩
theorem fields_r{fs:List (J2×Tts)}(h:∀q∈fs,WV q.1 q.2/\q.1.Init=[]/\q.1.Brace=false){r:Z0}{l':List Y8}(ht:TL r.l ([123]::((fs.map fun q=>q.2++[[59]]).flatten++[[125],[59]])) l'):Hc (R8 r) (Oe fun z=>Fl EqV (fs.map (·.1)) z.1/\z.2.l=l'):=by
 obtain⟨t,k,e1,e2,e3⟩:=ht.one;obtain⟨k2,e4,e5⟩:=e3.app;obtain⟨c,k3,rfl,e6,e7⟩:=e5.one;obtain⟨d,k4,rfl,e8,e9⟩:=e7.one;obtain rfl:=e9.emp;unfold R8;obtain⟨r1,f1,f2⟩:=Q5f e1 e2;refine Hc.st f1 ?_;refine Hc.lp (fun s=>∃done ps,done++ps=fs/\Fl EqV (done.map (·.1)) s.1/\TL s.2.l (ps.map fun q=>q.2++[[59]]).flatten (c::d::k4)) ?_ NN _ ⟨[],fs,rfl,Fl.nil,by dsimp only;rw[f2];exact e4⟩;rintro⟨a,r⟩ ⟨done,ps,hd,g0,h2⟩
 dsimp only at g0 h2⊢
 cases ps with
 |nil=>
  have e:r.l=c::d::k4:=h2.emp;obtain⟨r2,f3,f4⟩:=Q6r (s:=[125]) e e6;obtain⟨r3,f5,f6⟩:=Q5f (s:=[59]) f4 e8;rw[jK]at hd;subst hd;rw[f3,qV];refine Hc.ok ?_;exact Hc.st f5 (Hc.ok ⟨g0,f6⟩)
 |cons q ps=>
  obtain⟨h1,h3,h4⟩:=h q (by rw[<-hd];simp);obtain⟨p,ty,tt,s,ds,hv,hts,ht1,hs,hds⟩:=h1.bare h3 h4;rw[List.map_cons,List.flatten_cons,hts,qS,qS,jX]at h2;obtain⟨u,us,hu,hw⟩:=ht1.fst
  have hfst:∃u' v,r.l=u'::v/\Kt u' u:=by
   rw[hu]at h2;obtain⟨u',v,g1,g2,_⟩:=TL.one h2;exact⟨u',v,g1,g2⟩
  obtain⟨u',v,g1,g2⟩:=hfst;obtain⟨k5,e10,e11⟩:=tn_r ht1 hs h2;obtain⟨k6,e12,e13⟩:=e10.app;obtain⟨w,k7,rfl,e14,e15⟩:=TL.one (s:=[59]) (ts:=(ps.map fun q=>q.2++[[59]]).flatten) e13;rw[Q7m g1 (Z2d g2 (fun e=>by rw[e]at hw;revert hw;decide)),qV,Bool.not_false,Ak];refine Hc.sk fun q'=>Hc.bx e11 (fun z hz=>?_) fun _=>Hc.ok (Hc.ok trivial);obtain⟨hz1,r2,hz2,hz3⟩:=hz;refine Hc.st hz2 ?_;refine Hc.bx (X4t hds (r:=r2) (by rw[hz3];exact e12) ⟨w,k7,rfl,ffd e14⟩) (fun y hy=>?_) fun _=>Hc.ok (Hc.ok trivial);obtain⟨r3,f3,f4⟩:=Q5f (s:=[59]) hy.2 e14;refine Hc.st f3 (Hc.sk fun _=>Hc.ok ⟨done++[q],ps,by rw[qS];exact hd,?_,by dsimp only;rw[f4];exact e15⟩);rw[jC];refine g0.app (Fl.one ?_);show EqV q.1 _;rw[hv,hz1,hy.1];exact⟨rfl,rfl,rfl,rfl,Fl.nil⟩
abbrev Wv(l:List (J2×Tts)):Tts:=(l.map fun q=>[44]::q.2).flatten
theorem X6p(q:J2×Tts)(ps:List (J2×Tts)):sep ((q::ps).map (·.2))=q.2++Wv ps:=by
 simp only[sep,pre,List.map_cons,List.flatten_cons,Wv,List.map_map]
 rfl
theorem params_r{ps:List (J2×Tts)}(h:∀q∈ps,WV q.1 q.2/\q.1.Init=[]/\q.1.Brace=false/\q.1.Dims=[]){r:Z0}{l':List Y8}(ht:TL r.l ([40]::(sep (ps.map (·.2))++[[41]])) l'):Hc (P5 r) (Oe fun z=>Fl EqV (ps.map (·.1)) z.1/\z.2.l=l'):=by
 obtain⟨t,k,e1,e2,e3⟩:=ht.one;unfold P5;obtain⟨r1,f1,f2⟩:=Q5f e1 e2;refine Hc.st f1 ?_;show Hc (jn _ _) _
 dsimp only[jn]
 cases ps with
 |nil=>
  obtain⟨u,k2,e4,e5,e6⟩:=TL.one (s:=[41]) (ts:=[]) (by simpa[sep,pre]using e3);obtain⟨r2,f3,f4⟩:=Q6r (s:=[41]) (f2.trans e4) e5;rw[isf (f2.trans e4) (ffd e5),f3,qV];exact Hc.ok ⟨Fl.nil,f4.trans e6.emp⟩
 |cons q ps=>
  have hv:∀q'∈q::ps,∃p t tt s,q'.1=(⟨p,t,s,[],[],false⟩:J2)/\q'.2=tt++[s]/\WT t tt/\Nm s:=fun q' hq=>by
   obtain⟨h1,h3,h4,h5⟩:=h q' hq;obtain⟨p,ty,tt,s,ds,hv,hts,ht1,hs,hds⟩:=h1.bare h3 h4;rw[hv]at h5
   dsimp only at h5
   subst h5;exact⟨p,ty,tt,s,hv,hts,ht1,hs⟩
  rw[X6p]at e3;obtain⟨k2,e4,e5⟩:=e3.app;obtain⟨c,k3,rfl,e6,e7⟩:=e5.one;obtain rfl:=e7.emp
  have key:∀(r:Z0),TL r.l (q.2++Wv ps) (c::k3)->Hc ((loopM (fun(x2,x3)=>((F7 x3).bind fun y6=>(U6 x3).bind fun y7=>exL y7 (fun y7=>(U7 y7.2).bind fun y8=>exL y8 (fun y8=>(Q1d (qQ x2+qQ ([(⟨y6,y7.1,y8.1,[],[],false⟩:J2)]:List J2))).bind fun _=>(Y6 y8.2 ([44]:Aa)).bind fun y9=>bif !y9.1 then((Y7 y9.2 ([41]:Aa)).bind fun y10=>exL y10 (fun y10=>some (Lp.ret (qX (x2++([(⟨y6,y7.1,y8.1,[],[],false⟩:J2)]:List J2),y10)))))else(some (Lp.go (x2++([(⟨y6,y7.1,y8.1,[],[],false⟩:J2)]:List J2),y9.2))))):Option (Lp ((List J2)×Z0) (An ((List J2)×Z0))))) NN ([],r)).bind fun o=>o.thn (fun(x2,x3)=>none) (fun r=>some r)) (Oe fun z=>Fl EqV ((q::ps).map (·.1)) z.1/\z.2.l=k3):=by
   intro r hr;refine Hc.lp (fun s=>∃done q' ps',done++q'::ps'=q::ps/\Fl EqV (done.map (·.1)) s.1/\TL s.2.l (q'.2++Wv ps') (c::k3)) ?_ NN _ ⟨[],q,ps,rfl,Fl.nil,hr⟩;rintro⟨a,r⟩ ⟨done,q',ps',hd,g0,h2⟩
   dsimp only at g0 h2⊢
   obtain⟨p,ty,tt,s,hq1,hq2,ht1,hs⟩:=hv q' (by rw[<-hd];simp);rw[hq2,qS,List.singleton_append]at h2;obtain⟨k5,e10,e11⟩:=tn_r ht1 hs h2;refine Hc.sk fun q''=>Hc.bx e11 (fun z hz=>?_) fun _=>Hc.ok (Hc.ok trivial);obtain⟨hz1,r2,hz2,hz3⟩:=hz;refine Hc.st hz2 ?_;have hE:EqV q'.1 ⟨q'',z.1,s,[],[],false⟩:=by rw[hq1,hz1];exact⟨rfl,rfl,rfl,rfl,Fl.nil⟩
   refine Hc.sk fun _=>?_;show Hc ((Y6 r2 [44]).bind _) _;cases ps' with
   |nil=>
    have e:r2.l=c::k3:=hz3.trans e10.emp;obtain⟨r3,f3,f4⟩:=Q5f (s:=[41]) e e6;refine Hc.st (Q7m e (ffd e6)) ?_;refine Hc.st f3 (Hc.ok (Hc.ok ⟨?_,f4⟩));rw[<-hd,jC];exact g0.app (Fl.one hE)
   |cons q2 ps'=>
    obtain⟨w,k6,g1,g2,g3⟩:=TL.one (s:=[44]) (ts:=q2.2++Wv ps') (by simpa[Wv]using e10);obtain⟨r3,f3,f4⟩:=Q6r (s:=[44]) (hz3.trans g1) g2;refine Hc.st f3 (Hc.ok ⟨done++[q'],q2,ps',by rw[qS];exact hd,?_,by dsimp only;rw[f4];exact g3⟩);rw[jC];exact g0.app (Fl.one hE)
  have e8:TL k (q.2++Wv ps) (c::k3):=e4;obtain⟨p,ty,tt,s,hq1,hq2,ht1,hs⟩:=hv q (by simp);obtain⟨u,us,hu,hw⟩:=ht1.fst
  have hfst:∃u1 u2 v,k=u1::u2::v/\Kt u1 u/\u2.Text≠[41]:=by
   rw[hq2,hu,jX,jX]at e8;obtain⟨u1,v,rfl,g2,g3⟩:=e8.one;cases ht1 with
   |@base w n hn hb=>
    cases hu;cases n with
    |zero=>
     obtain⟨u2,v,rfl,g4,_⟩:=TL.one (s:=s) (ts:=Wv ps) (by simpa using g3);exact⟨u1,u2,v,rfl,g2,fun e=>by have:=(g4.at hs).1;rw[g4.tx]at e;have h2:=(km (s:=[41]) (by decide)).one;rw[<-e]at h2;have:=hs.one.symm.trans h2;simp at this⟩
    |succ n=>
     obtain⟨u2,v,rfl,g4,_⟩:=TL.one (s:=[42]) (ts:=kZ n [42]++[s]++Wv ps) (by simpa[List.replicate_succ]using g3);exact⟨u1,u2,v,rfl,g2,by rw[g4.tx];decide⟩
   |@strct s2 n hn hb=>
    cases hu;obtain⟨u2,v,rfl,g4,_⟩:=TL.one (s:=s2) (ts:=kZ n [42]++[s]++Wv ps) (by simpa using g3);exact⟨u1,u2,v,rfl,g2,fun e=>by rw[g4.tx]at e;have h2:=(km (s:=[41]) (by decide)).one;rw[<-e]at h2;have:=hb.one.symm.trans h2;simp at this⟩
  obtain⟨u1,u2,v,rfl,g2,g3⟩:=hfst;have htk:Y6 r1 [41]=some (false,r1):=Q7m f2 (Z2d g2 fun e=>by rw[e]at hw;revert hw;decide);have fin:=key r1 (by rw[f2];exact e8)
  by_cases hvd:u=[118,111,105,100]
  . subst hvd;rw[is_m f2 g2,qV,Ak,peek_f (t:=u2) (by rw[f2];rfl) g3,qV,Aj,htk,qV,Aj];exact fin
  . rw[isf f2 (Z2d g2 hvd),htk,qV,Aj];exact fin
def outT(p0:Z0)(p1:U3)(y1:Pos):Option (Except (Z7×Z0×U3) (Z0×U3)):=
 (U6 p0).bind fun y13=>exC y13 (fun y13=>(U7 y13.2).bind fun y14=>exC y14 (fun y14=>(X8 y14.2 ([40]:Aa)).bind fun y15=>bif !y15 then((B5 y14.2 (⟨y1,y13.1,y14.1,[],[],false⟩:J2)).bind fun y16=>exC y16 (fun y16=>(Q1d (qQ p1.Globals+qQ ([y16.1]:List J2))).bind fun _=>some (qX (y16.2,{p1 with Globals:=p1.Globals++([y16.1]:List J2)}))) (fun e9=>some (qK (e9.1,e9.2,p1))))else(jn (fun kk3=>(P5 y14.2).bind fun y17=>exC y17 (fun y17=>kk3 y17.2 (⟨y1,y13.1,y14.1,y17.1,[]⟩:L6)) (fun e10=>some (qK (e10.1,e10.2,p1)))) (fun(x5:Z0)(x6:L6)=>(G7 x5).bind fun y18=>exC y18 (fun y18=>(Q1d (qQ p1.Funcs+qQ ([{x6 with Body:=y18.1}]:List L6))).bind fun _=>some (qX (y18.2,{p1 with Funcs:=p1.Funcs++([{x6 with Body:=y18.1}]:List L6)}))) (fun e11=>some (qK (e11.1,e11.2,p1)))))) (fun e12=>some (qK (e12.1,e12.2,p1)))) (fun e13=>some (qK (e13.1,e13.2,p1)))
theorem out_g{r:Z0}{p:U3}{q:Pos}{v:J2}{ts:Tts}{l':List Y8}(h:WV v ts)(ht:TL r.l (ts++[[59]]) l'):Hc (outT r p q) (Oe fun z=>(∃v',EqV v v'/\z.2={p with Globals:=p.Globals++[v']})/\z.1.l=l'):=by
 cases h with
 |@mk p' t tt s ds b ps hw hs hds hi hbr hc=>
  rw[qS,jX]at ht;obtain⟨k1,e1,e2⟩:=tn_r hw hs ht
  have hfst:∃u v,k1=u::v/\Ff u [40]:=by
   cases ds with
   |cons d ds=>
    obtain⟨u,v,g1,g2,_⟩:=TL.one (s:=[91]) (ts:=nu d::[93]::(Y1g ds++iniT b ps++[[59]])) (by simpa[Y1g]using e1);exact⟨u,v,g1,ffd g2⟩
   |nil=>
    unfold iniT at e1
    split at e1
    . obtain⟨u,v,g1,g2,_⟩:=TL.one (s:=[59]) (ts:=[]) (by simpa[Y1g]using e1);exact⟨u,v,g1,ffd g2⟩
    . obtain⟨u,v,g1,g2,_⟩:=TL.one (s:=[61]) (ts:=(bif b then[123]::(sep (ps.map (·.2))++[[125]])else sep (ps.map (·.2)))++[[59]]) (by simpa[Y1g]using e1);exact⟨u,v,g1,ffd g2⟩
  obtain⟨u,v,rfl,hf⟩:=hfst;unfold outT;refine Hc.bx e2 fun z hz=>?_;obtain⟨h1,r2,h2,h3⟩:=hz;refine Hc.st h2 ?_;show Hc ((X8 r2 [40]).bind _) _;refine Hc.st (Y6f h3 hf) ?_;refine Hc.bx (X3p (t:=z.1) (s:=s) (p:=q) hds hi hbr hc (r:=r2) (by rw[h3];exact e1)) fun y hy=>Hc.sk fun _=>Hc.ok ⟨⟨y.1,?_,rfl⟩,hy.2⟩;rw[h1]at hy;exact⟨hy.1.n,hy.1.t,hy.1.d,hy.1.br,hy.1.is⟩
theorem out_f{r:Z0}{p:U3}{q:Pos}{f:L6}{ts:Tts}{l':List Y8}(h:WF f ts)(ht:TL r.l ts l'):Hc (outT r p q) (Oe fun z=>(∃f',EqF f f'/\z.2={p with Funcs:=p.Funcs++[f']})/\z.1.l=l'):=by
 cases h with
 |@mk p' t tt s ps qs hw hs hp hb=>
  obtain⟨k1,e1,e2⟩:=tn_r hw hs ht;obtain⟨u,k2,e3,e4,_⟩:=e1.one;obtain⟨k3,e6,e7⟩:=TL.app (ts:=[40]::(sep (ps.map (·.2))++[[41]])) (us:=Z2i (qs.map (·.2))) (by simpa using e1);unfold outT;refine Hc.bx e2 fun z hz=>?_;obtain⟨h1,r2,h2,h3⟩:=hz;refine Hc.st h2 ?_;show Hc ((X8 r2 [40]).bind _) _;refine Hc.st (is_m (h3.trans e3) e4) ?_;refine Hc.bx (params_r hp (r:=r2) (by rw[h3];exact e6)) fun y hy=>?_;refine Hc.bx (X6e (n:=NN) (fun q hq=>⟨hb q hq,sback (hb q hq)⟩) (r:=y.2) (by rw[hy.2];exact e7)) fun x hx=>Hc.sk fun _=>Hc.ok ⟨⟨⟨q,z.1,s,y.1,x.1⟩,⟨h1.symm,rfl,hy.1,hx.1⟩,rfl⟩,hx.2⟩
theorem X5s{r:Z0}{p:U3}{t:K6}{tt ts:Tts}{s:Aa}{l':List Y8}(hw:WT t tt)(hs:Nm s)(ht:TL r.l (tt++s::ts) l'){Q:Except (Z7×Z0×U3) (Z0×U3)->Prop}(k:∀q,Hc (outT r p q) Q):Hc (N8 r p) Q:=by
 unfold N8;refine Hc.sk fun q=>?_;cases hw with
 |@base w n hn hb=>
  obtain⟨u,v,e1,e2,_⟩:=TL.one (s:=w) (ts:=kZ n [42]++s::ts) (by simpa using ht);rw[isf e1 (Z2d e2 fun e=>by rw[e]at hb;revert hb;decide)];exact k q
 |@strct s2 n hn hb=>
  obtain⟨u,v,e1,e2,e3⟩:=TL.one (s:=Q1z) (ts:=s2::(kZ n [42]++s::ts)) (by simpa using ht);obtain⟨u2,v2,rfl,e4,e5⟩:=e3.one
  have h3:∃u3 v3,v2=u3::v3/\u3.Text≠[123]:=by
   cases n with
   |zero=>
    obtain⟨u3,v3,g1,g2,_⟩:=TL.one (s:=s) (ts:=ts) (by simpa using e5);exact⟨u3,v3,g1,fun e=>by rw[g2.tx]at e;have h2:=(km (s:=[123]) (by decide)).one;rw[<-e]at h2;have:=hs.one.symm.trans h2;simp at this⟩
   |succ n=>
    obtain⟨u3,v3,g1,g2,_⟩:=TL.one (s:=[42]) (ts:=kZ n [42]++s::ts) (by simpa[List.replicate_succ]using e5);exact⟨u3,v3,g1,by rw[g2.tx];decide⟩
  obtain⟨u3,v3,rfl,h4⟩:=h3;rw[is_m (s:=[115,116,114,117,99,116]) e1 e2,qV,Ak,peek_f (t:=u3) (by rw[e1];rfl) h4,qV,Aj];exact k q
theorem out_u{r:Z0}{p:U3}{x:S8}{ts:Tts}{l':List Y8}(h:WU x ts)(ht:TL r.l ts l'):Hc (N8 r p) (Oe fun z=>(∃x',EqT x x'/\z.2={p with Structs:=p.Structs++[x']})/\z.1.l=l'):=by
 cases h with
 |@mk p' s fs hs h=>
  obtain⟨u,v,e1,e2,e3⟩:=ht.one;obtain⟨u2,v2,rfl,e4,e5⟩:=e3.one;obtain⟨u3,v3,e6,e7,_⟩:=e5.one;unfold N8;refine Hc.sk fun q=>?_;obtain⟨r1,f1,f2⟩:=Q5f (s:=[115,116,114,117,99,116]) e1 e2;obtain⟨r2,f3,f4⟩:=Y7l f2 e4 hs;rw[is_m (s:=[115,116,114,117,99,116]) e1 e2,qV,Ak,peek_t (t:=u3) (by rw[e1,e6];simp only[qY];omega) (by rw[e1,e6];rfl) e7.tx (e7.f4),qV,Ak];refine Hc.st f1 ?_;show Hc (jn _ _) _
  dsimp only[jn]
  refine Hc.st f3 ?_;exact Hc.bx (fields_r h (r:=r2) (by rw[f4];exact e5)) fun z hz=>Hc.sk fun _=>Hc.ok ⟨⟨⟨q,s,z.1⟩,⟨rfl,hz.1⟩,rfl⟩,hz.2⟩
theorem try_r{x:U3}{ts:Tts}(h:WP x ts){r:Z0}(ht:TL r.l ts []):Hc (Q0k r) (Oe fun z=>EqP x z.1):=by
 cases h with
 |@mk us gs fs hu hg hf=>
  unfold Q0k;refine Hc.lp (fun s=>∃u1 u2 g1 g2 f1 f2,u1++u2=us/\g1++g2=gs/\f1++f2=fs/\Fl EqT (u1.map (·.1)) s.1.Structs/\Fl EqV (g1.map (·.1)) s.1.Globals/\Fl EqF (f1.map (·.1)) s.1.Funcs/\TL s.2.l ((u2.map (·.2)).flatten++((g2.map fun q=>q.2++[[59]]).flatten++(f2.map (·.2)).flatten)) []) ?_ NN _ ⟨[],us,[],gs,[],fs,rfl,rfl,rfl,Fl.nil,Fl.nil,Fl.nil,ht⟩;rintro⟨p,r⟩ ⟨u1,u2,g1,g2,f1,f2,h1,h2,h3,h4,h5,h6,h7⟩
  dsimp only at h4 h5 h6 h7⊢
  have some_:∀{s:Aa}{us:Tts},TL r.l (s::us) []->decide ((0:Int)<(qQ r.l:Int))=true:=fun h=>by
   obtain⟨u,v,e1,_⟩:=h.one;rw[e1];exact dt (by simp only[qY];omega)
  cases u2 with
  |cons q u2=>
   rw[List.map_cons,List.flatten_cons,qS]at h7;obtain⟨k,e1,e2⟩:=h7.app;have hq:=hu q (by rw[<-h1];simp)
   have hd:decide ((0:Int)<(qQ r.l:Int))=true:=by
    obtain⟨q1,q2⟩:=q;cases hq with
    |mk hs hh=>exact some_ h7
   rw[c1 hd];refine Hc.bx (out_u (p:=p) hq e1) (fun z hz=>Hc.ok ⟨u1++[q],u2,g1,g2,f1,f2,by rw[qS];exact h1,h2,h3,?_,?_,?_,by dsimp only;rw[hz.2];exact e2⟩) fun _=>Hc.ok (Hc.ok trivial)
   . obtain⟨x',hx,hz2⟩:=hz.1;rw[hz2,jC];exact h4.app (Fl.one hx)
   . obtain⟨x',hx,hz2⟩:=hz.1;rw[hz2];exact h5
   . obtain⟨x',hx,hz2⟩:=hz.1;rw[hz2];exact h6
  |nil=>
   rw[List.map_nil,List.flatten_nil,jV]at h7;cases g2 with
   |cons q g2=>
    rw[List.map_cons,List.flatten_cons,qS]at h7;obtain⟨k,e1,e2⟩:=h7.app;have hq:=hg q (by rw[<-h2];simp)
    obtain⟨ty,tt,s,us',hw,hs,hts⟩:∃ty tt s us',WT ty tt/\Nm s/\q.2=tt++s::us':=by
     obtain⟨q1,q2⟩:=q;cases hq with
     |mk ht hs hd hi hb hc=>exact⟨_,_,_,_,ht,hs,rfl⟩
    have e3:TL r.l (tt++s::(us'++[[59]])) k:=by rw[hts,qS,jX]at e1;exact e1
    have hd:decide ((0:Int)<(qQ r.l:Int))=true:=by
     obtain⟨s1,us1,hu,_⟩:=hw.fst;rw[hu]at e3;obtain⟨u,v,g,_⟩:=TL.one e3;rw[g];exact dt (by simp only[qY];omega)
    rw[c1 hd];refine Hc.bx (X5s (p:=p) hw hs e3 fun q'=>out_g hq e1) (fun z hz=>Hc.ok ⟨u1,[],g1++[q],g2,f1,f2,h1,by rw[qS];exact h2,h3,?_,?_,?_,by dsimp only;rw[hz.2];exact e2⟩) fun _=>Hc.ok (Hc.ok trivial)
    . obtain⟨x',hx,hz2⟩:=hz.1;rw[hz2];exact h4
    . obtain⟨x',hx,hz2⟩:=hz.1;rw[hz2,jC];exact h5.app (Fl.one hx)
    . obtain⟨x',hx,hz2⟩:=hz.1;rw[hz2];exact h6
   |nil=>
    rw[List.map_nil,List.flatten_nil,jV]at h7;cases f2 with
    |cons q f2=>
     rw[List.map_cons,List.flatten_cons]at h7;obtain⟨k,e1,e2⟩:=h7.app;have hq:=hf q (by rw[<-h3];simp)
     obtain⟨ty,tt,s,us',hw,hs,hts⟩:∃ty tt s us',WT ty tt/\Nm s/\q.2=tt++s::us':=by
      obtain⟨q1,q2⟩:=q;cases hq with
      |mk ht hs hp hb=>exact⟨_,_,_,_,ht,hs,rfl⟩
     have e3:TL r.l (tt++s::us') k:=by rw[hts]at e1;exact e1
     have hd:decide ((0:Int)<(qQ r.l:Int))=true:=by
      obtain⟨s1,us1,hu,_⟩:=hw.fst;rw[hu]at e3;obtain⟨u,v,g,_⟩:=TL.one e3;rw[g];exact dt (by simp only[qY];omega)
     rw[c1 hd];refine Hc.bx (X5s (p:=p) hw hs e3 fun q'=>out_f hq e1) (fun z hz=>Hc.ok ⟨u1,[],g1,[],f1++[q],f2,h1,h2,by rw[qS];exact h3,?_,?_,?_,by dsimp only;rw[hz.2];exact e2⟩) fun _=>Hc.ok (Hc.ok trivial)
     . obtain⟨x',hx,hz2⟩:=hz.1;rw[hz2];exact h4
     . obtain⟨x',hx,hz2⟩:=hz.1;rw[hz2];exact h5
     . obtain⟨x',hx,hz2⟩:=hz.1;rw[hz2,jC];exact h6.app (Fl.one hx)
    |nil=>
     have e:r.l=[]:=h7.emp;rw[c0 (df (by rw[e];simp))];rw[jK]at h1 h2 h3;subst h1 h2 h3;exact Hc.ok (Hc.ok ⟨h4,h5,h6⟩)
class Cde(E:Type) where
 cd:E->Int
instance:Cde Z7:=⟨fun x=>x.e⟩
instance{A:Type}:Cde (Z7×A):=⟨fun x=>x.1.e⟩
instance{A:Type}:Cde (U3×Z7×A):=⟨fun x=>x.2.1.e⟩
def Oz{E A:Type}[Cde E](P:A->Prop):Except E A->Prop
 | .ok x=>P x
 | .error e=>Cde.cd e≠0
section
variable{Z E A:Type}[Cde E]{Q:Z->Prop}
theorem Hc.bz{m:Option (Except E A)}{f:A->Option Z}{g:E->Option Z}{T:A->Prop}(h:Hc m (Oz T))(k:∀x,T x->Hc (f x) Q)(e:∀x,Cde.cd x≠0->Hc (g x) Q:=by first|exact fun _ h=>Hc.ok h|exact fun _ h=>Hc.ok (Hc.ok h)|exact fun _ h=>Hc.ok (Hc.ok (Hc.ok h))):Hc (m.bind fun y=>exC y f g) Q:=by
 cases hm:m with
 |none=>exact .no
 |some x=>
  cases x with
  |error x=>exact e x (h _ hm)
  |ok x=>exact k x (h _ hm)
theorem Hc.oz{m:Option (Except E A)}{P T:A->Prop}(h:Hc m (Oz P))(k:∀x,P x->T x):Hc m (Oz T):=h.mp fun x=>match x with
 | .ok x=>k x
 | .error _=>fun h=>h
theorem Hc.br{a b:Option Z}{c:Bool}(h:c=true->Hc a Q)(k:c=false->Hc b Q):Hc (bif c then a else b) Q:=by
 cases c with
 |true=>exact h rfl
 |false=>exact k rfl
end
structure Tfm(t:Y8):Prop where
 nm:t.Kind=1->Nm t.Text
 wd:t.Kind=2->t.Text∈Z0e
 nu:t.Kind=3->U32 t.Num
 ma:t.Kind=4->t.Text∈Q0f
theorem Y3b(u x:Aa)(b:Int):Hc (numK u x b) (fun y=>y.2=0->y.1.Kind=3):=by
 unfold numK;refine Hc.br (fun _=>Hc.ok fun h=>by cases h) fun _=>Hc.sk fun _=>?_;refine Hc.lp (fun _=>True) ?_ NN _ trivial;rintro⟨a,f,i⟩ _
 dsimp only[jn]
 refine Hc.br (fun _=>Hc.sk fun _=>Hc.sk fun _=>Hc.br (fun _=>Hc.ok (Hc.ok fun h=>by cases h)) fun _=>Hc.sk fun _=>Hc.br (fun _=>Hc.ok trivial) fun _=>Hc.ok trivial) fun _=>Hc.ok ?_;exact Hc.br (fun _=>Hc.ok fun h=>by cases h) fun _=>Hc.ok fun _=>rfl
theorem X0s(s:Aa)(hl:s.length<=100000):Hc (Z1c s) (fun y=>y.2=0->y.1.Kind=3):=by
 rw[Y1p s hl];unfold numT
 dsimp only[jn]
 exact Hc.sk fun _=>Hc.br (fun _=>Hc.sk fun _=>Y3b _ _ _) fun _=>Hc.sk fun _=>Hc.br (fun _=>Hc.sk fun _=>Y3b _ _ _) fun _=>Y3b _ _ _
theorem char_of(s:Aa):Hc (Q2s s) (fun y=>y.2=0->y.1.Kind=3):=by
 unfold Q2s
 repeat'(first|exact Hc.ok fun h=>absurd h (by decide)|exact Hc.ok fun _=>rfl|refine Hc.sk fun _=>?_|refine Hc.br (fun _=>?_) fun _=>?_|dsimp only[jn])
theorem mark_mem{s:Aa}(h:Z0h s≠[]):Z0h s∈Q0f:=by
 unfold Z0h at h⊢;cases hf:Q0f.findIdx? (fun m=>decide (m<+:s))with
 |none=>rw[hf]at h;exact absurd rfl h
 |some k=>
  have hk:=(List.findIdx?_eq_some_iff_getElem.1 hf).1
  dsimp only
  rw[show Q0f.getD k []=Q0f[k] by simp[hk]];exact jT hk
theorem tok_form{s:Aa}{t:Y8}(hs:s≠[])(hl:s.length<=100000)(h:Q0r s=some (t,0)):Tfm t:=by
 obtain⟨c,l,rfl⟩:∃c l,s=c::l:=by
  cases s with
  |nil=>exact absurd rfl hs
  |cons c l=>exact⟨c,l,rfl⟩
 obtain⟨y,ey,hT⟩:=Y2w (c::l) hs hl
 have hnu:U32 t.Num:=by
  rw[ey]at h;have e:=oI h;subst e;exact(hT rfl).nu
 have hpre:∀{k:Int},t.Kind=k->k=3->Tfm t:=fun h1 h2=>⟨fun h=>by omega,fun h=>by omega,fun _=>hnu,fun h=>by omega⟩;unfold Q0r at h;rw[show idx (c::l) 0=some c from rfl]at h
 simp only[qV,Z4n,Z5g]at h
 cases hlet:Y3d (c.toNat:Int)with
 |true=>
  have hmc:O0 c=true:=by unfold O0;rw[hlet];rfl
  rw[hlet,Ak,Y0c _ (by omega),qV,Z3h (Y0e _ _),qV]at h
  by_cases h31:(31:Int)<((sp O0 (c::l):Nat):Int)
  . rw[c1 (dt h31)]at h;cases h
  . rw[c0 (df h31),Y6r]at h
    dsimp only[jn]at h
    rw[qV]at h;have hle:=Y0e O0 (c::l);have hlen:((c::l).take (sp O0 (c::l))).length=sp O0 (c::l):=by rw[List.length_take];omega
    have hall:=Y0d O0 (c::l)
    have htc:∃q,(c::l).take (sp O0 (c::l))=c::q:=by
     have:sp O0 (c::l)=sp O0 l+1:=by show(if O0 c then sp O0 l+1 else 0)=_;rw[if_pos hmc]
     rw[this];exact⟨_,rfl⟩
    generalize(c::l).take (sp O0 (c::l))=u at h hall hlen htc
    obtain⟨q,rfl⟩:=htc;have hx:=X5e (s:=c::q) (by omega) (by simp) hall hlet;cases hw:Y5k (c::q)with
    |true=>
     rw[hw]at h;cases h;refine⟨fun h=>absurd h (by dsimp only;decide),fun _=>?_,fun h=>absurd h (by dsimp only;decide),fun h=>absurd h (by dsimp only;decide)⟩;unfold Y5k at hw;obtain⟨w,h1,h2⟩:=List.any_eq_true.1 hw;rw[of_decide_eq_true h2];exact h1
    |false=>
     rw[hw]at h hx;cases h;exact⟨fun _=>hx,fun h=>absurd h (by dsimp only;decide),fun h=>absurd h (by dsimp only;decide),fun h=>absurd h (by dsimp only;decide)⟩
 |false=>
  rw[hlet,Aj]at h;cases hdig:Y3f (c.toNat:Int)with
  |true=>
   rw[hdig,Ak]at h;obtain⟨⟨a,b⟩,h1,h2⟩:=bindS h;have e:=X0s _ hl _ h1;cases h2;exact hpre (e rfl) rfl
  |false=>
   rw[hdig,Aj]at h;cases hq:((c.toNat:Int)==39)with
   |true=>
    rw[hq,Ak]at h;obtain⟨⟨a,b⟩,h1,h2⟩:=bindS h;have e:=char_of _ _ h1;cases h2;exact hpre (e rfl) rfl
   |false=>
    rw[hq,Aj,Y6n,qV]at h
    by_cases hm:Z0h (c::l)=[]
    . rw[c1 (dt hm)]at h;cases h
    . rw[c0 (df hm)]at h;cases h;refine⟨fun h=>absurd h (by dsimp only;decide),fun h=>absurd h (by dsimp only;decide),fun h=>absurd h (by dsimp only;decide),fun _=>?_⟩;exact mark_mem hm
theorem lx_form{s:Aa}{ts:List Y8}(h:Lx s ts)(hl:s.length<=100000):∀t∈ts,Tfm t:=by
 induction h with
 |nil=>exact fun t h=>by cases h
 |@blank s ts h n hn h0 k ih=>exact ih (by rw[List.length_drop];omega)
 |@tok s t ts h hb ht k ih=>
  intro u hu
  rcases qZ.1 hu with rfl|hu
  . exact tok_form h hl ht
  . exact ih (by rw[List.length_drop];omega) u hu
def Tv(l:List Y8):Prop:=(∀t∈l,Tfm t)/\l.length<=70000
theorem Tv.tl{t:Y8}{l:List Y8}(h:Tv (t::l)):Tv l/\Tfm t:=⟨⟨fun u hu=>h.1 u (List.mem_cons_of_mem _ hu),by have:=h.2;simp only[qY]at this;omega⟩,h.1 t (by simp)⟩
def We(x:Z5):Prop:=∃ts,WE x ts
section
variable{r:Z0}{m:Aa}
theorem X1b(r:Z0)(k:Int):∃p,Q0m r k=some (.error ⟨p,k⟩):=by
 obtain⟨p,hp⟩:=X5r r;exact⟨p,bnd hp rfl⟩
theorem is_z:Hc (X8 r m) (fun b=>b=true->∃t l,r.l=t::l/\t.Text=m):=by
 obtain⟨b,hb,hc⟩:=Z0d r m;rw[hb];refine Hc.ok fun h=>?_;obtain⟨t,l,h1,h2,_⟩:=hc h;exact⟨t,l,h1,h2⟩
theorem Q1n(h:Tv r.l):Hc (Y6 r m) (fun z=>Tv z.2.l/\(z.1=true->∃t,r.l=t::z.2.l/\t.Text=m)):=by
 obtain⟨b,hb,hc⟩:=Z0d r m;cases b with
 |false=>
  unfold Y6;rw[hb];exact Hc.ok ⟨h,fun h=>by cases h⟩
 |true=>
  obtain⟨t,l,h1,h2,h3⟩:=hc rfl;obtain⟨r',e1,e2⟩:=Z4u h1 h2 h3;rw[e1];rw[h1]at h;exact Hc.ok ⟨by rw[e2];exact h.tl.1,fun _=>⟨t,by rw[e2];exact h1,h2⟩⟩
theorem Q0t(h:Tv r.l):Hc (Y7 r m) (Oz fun r'=>Tv r'.l):=by
 unfold Y7;refine Hc.bd (Q1n h) fun z hz=>Hc.br (fun _=>?_) fun _=>Hc.ok hz.1;obtain⟨p,hp⟩:=X1b z.2 3;exact Hc.st hp (Hc.ok (by decide:(3:Int)≠0))
theorem X0x{k:Int}(h:Tv r.l):Hc (B4 r k) (Oz fun z=>Tfm z.1/\z.1.Kind=k/\Tv z.2.l):=by
 obtain⟨l,e,d⟩:=r;obtain⟨p,hp⟩:=X1b ⟨l,e,d⟩ 3;cases l with
 |nil=>
  unfold B4 jn
  dsimp only
  rw[c1 (show((qQ ([]:List Y8):Int)==0)=true from rfl)];exact Hc.st hp (Hc.ok (by decide:(3:Int)≠0))
 |cons t l=>
  by_cases hk:t.Kind=k
  . rw[Y7t hk];exact Hc.ok ⟨h.tl.2,hk,h.tl.1⟩
  . unfold B4 jn
    dsimp only
    rw[c0 lz];refine Hc.st (x:=t) rfl ?_;rw[c1 (by simpa using hk)];exact Hc.st hp (Hc.ok (by decide:(3:Int)≠0))
theorem Z7x(h:Tv r.l):Hc (U7 r) (Oz fun z=>Nm z.1/\Tv z.2.l):=by
 unfold U7;exact Hc.bz (X0x h) fun z hz=>Hc.ok ⟨hz.1.nm hz.2.1,hz.2.2⟩
theorem X1e:Hc (D5 r) (Oz fun r'=>r'.l=r.l):=by
 unfold D5 jn
 dsimp only
 obtain⟨p,hp⟩:=X1b r 2;exact Hc.br (fun _=>Hc.st hp (Hc.ok (by decide:(2:Int)≠0))) fun _=>Hc.ok rfl
theorem Y7q(r:Z0):∃m,F6 r=some m/\(m=[]\/∃t l,r.l=t::l/\t.Kind=4/\t.Text=m):=by
 obtain⟨l,e,d⟩:=r;cases l with
 |nil=>exact⟨[],rfl,.inl rfl⟩
 |cons t l=>
  by_cases hk:t.Kind=4
  . exact⟨_,Y4b hk,.inr ⟨t,l,rfl,hk,rfl⟩⟩
  . exact⟨_,Y5b hk,.inl rfl⟩
theorem Y0p{k:Int}(h:Tv r.l)(hm:∃t l,r.l=t::l/\t.Kind=4/\t.Text=m):∃p r',V4 r k=some (⟨k,p,m,[],0,T0n,[]⟩,r')/\Tv r'.l:=by
 obtain⟨t,l,h1,h2,rfl⟩:=hm;obtain⟨p,r',e1,e2⟩:=Z7w h1 h2 k;rw[h1]at h;exact⟨p,r',e1,by rw[e2];exact h.tl.1⟩
theorem types_z:Hc (P0 r) (fun b=>b=true->∃t l,r.l=t::l/\(t.Text∈Z3z\/t.Text=Q1z)):=by
 unfold P0
 have fin:∀{s:Aa},(s∈Z3z\/s=Q1z)->(∃t l,r.l=t::l/\t.Text=s)->∃t l,r.l=t::l/\(t.Text∈Z3z\/t.Text=Q1z):=fun hs h=>by
  obtain⟨t,l,h1,h2⟩:=h;exact⟨t,l,h1,by rw[h2];exact hs⟩
 exact Hc.bd is_z fun b hb=>Hc.br (fun h=>Hc.ok fun _=>fin (.inl (by decide)) (hb h)) fun _=>Hc.bd is_z fun b hb=>Hc.br (fun h=>Hc.ok fun _=>fin (.inl (by decide)) (hb h)) fun _=>Hc.bd is_z fun b hb=>Hc.br (fun h=>Hc.ok fun _=>fin (.inl (by decide)) (hb h)) fun _=>Hc.bd is_z fun b hb=>Hc.ok fun h=>fin (.inr rfl) (hb h)
theorem star_z{w s:Aa}(hw:∀n:Nat,n<=1000000->∃ts,WT ⟨w,s,(n:Int)⟩ ts){r:Z0}(h:Tv r.l):Hc ((loopM (fun(x3,x4)=>((Y6 x4 ([42]:Aa)).bind fun y4=>bif y4.1 then(some (Lp.go ({x3 with Stars:=qJ .i64 (x3.Stars+1)},y4.2)))else(some (Lp.brk (x3,y4.2))):Option (Lp (K6×Z0) (Unit)))) NN ((⟨w,s,0⟩:K6),r)).bind fun o=>o.thn (fun(x3,x4)=>some (qX (ε:=Z7×Z0) (x3,x4))) (fun _=>none)) (Oz fun z=>(∃ts,WT z.1 ts)/\Tv z.2.l):=by
 refine Hc.lp (fun z=>∃k:Nat,z.1=⟨w,s,(k:Int)⟩/\k+z.2.l.length<=70000/\Tv z.2.l) ?_ NN _ ⟨0,rfl,by have:=h.2;dsimp only;omega,h⟩;rintro⟨x,r⟩ ⟨k,h1,h2,h3⟩
 dsimp only at h1 h2 h3⊢
 subst h1;refine Hc.bd (Q1n h3) fun y hy=>Hc.br (fun hb=>?_) fun _=>?_
 . obtain⟨t,e,_⟩:=hy.2 hb;have:=congrArg qQ e
   simp only[qY]at this
   exact Hc.ok ⟨k+1,by dsimp only;rw[w64 (by omega)];rfl,by dsimp only;omega,hy.1⟩
 . exact Hc.ok (Hc.ok ⟨hw k (by omega),hy.1⟩)
theorem Z4r(h:Tv r.l):Hc (U6 r) (Oz fun z=>(∃ts,WT z.1 ts)/\Tv z.2.l):=by
 unfold U6
 dsimp only[jn]
 obtain⟨p,hp⟩:=X1b r 3;refine Hc.bd types_z fun b hb=>Hc.br (fun _=>Hc.st hp (Hc.ok (by decide:(3:Int)≠0))) fun hb2=>?_;obtain⟨t,l,h1,h2⟩:=hb (by cases b with|true=>rfl|false=>cases hb2);rw[h1]at h⊢;refine Hc.st (x:=t) rfl (Hc.st (Z3i t l) ?_)
 by_cases hs:t.Text=Q1z
 . rw[c1 (dt (show t.Text=[115,116,114,117,99,116]from hs))];refine Hc.bz (Z7x (r:={r with l:=l}) h.tl.1) fun z hz=>?_;rw[hs];exact star_z (fun n hn=>⟨_,.strct hn hz.1⟩) hz.2
 . rw[c0 (df (show¬t.Text=[115,116,114,117,99,116]from hs))];have hb:t.Text∈Z3z:=h2.resolve_right hs;exact star_z (r:={r with l:=l}) (fun n hn=>⟨_,.base hn hb⟩) h.tl.1
end
theorem rank_mem{o:Aa}{k:Int}(h:Q2g o=some k)(hk:k≠0):o∈binO:=by
 by_cases hm:o∈binO
 . exact hm
 . exfalso
   simp only[binO,qZ,List.not_mem_nil,or_false,not_or]at hm
   obtain⟨a1,a2,a3,a4,a5,a6,a7,a8,a9,b1,b2,b3,b4,b5,b6,b7,b8,b9⟩:=hm;unfold Q2g at h
   simp only[jn,df a1,df a2,df a3,df a4,df a5,df a6,df a7,df a8,df a9,df b1,df b2,df b3,df b4,df b5,df b6,df b7,df b8,df b9,Aj]at h
   exact hk (oI h).symm
theorem asg_mem{o:Aa}(h:Q0q o=some true):o∈asgO:=by
 by_cases hm:o∈asgO
 . exact hm
 . exfalso
   simp only[asgO,qZ,List.not_mem_nil,or_false,not_or]at hm
   obtain⟨a1,a2,a3,a4,a5,a6,a7,a8,a9,b1,b2⟩:=hm;unfold Q0q at h
   simp only[jn,df a1,df a2,df a3,df a4,df a5,df a6,df a7,df a8,df a9,df b1,df b2,Aj]at h
   cases h
structure Ez(G:Z1q):Prop where
 bracketed:∀r,Tv r.l->Hc (G.U1 r) (Oz fun z=>(∃x,z.1=[x]/\We x)/\Tv z.2.l)
 handed:∀r,Tv r.l->Hc (G.F0 r) (Oz fun z=>(∀x∈z.1,We x)/\Tv z.2.l)
 prime:∀r,Tv r.l->Hc (G.J7 r) (Oz fun z=>We z.1/\Tv z.2.l)
 post:∀r,Tv r.l->Hc (G.C2 r) (Oz fun z=>We z.1/\Tv z.2.l)
 unary:∀r,Tv r.l->Hc (G.X9 r) (Oz fun z=>We z.1/\Tv z.2.l)
 binary:∀r k,Tv r.l->Hc (G.J4 r k) (Oz fun z=>We z.1/\Tv z.2.l)
 cond:∀r,Tv r.l->Hc (G.D8 r) (Oz fun z=>We z.1/\Tv z.2.l)
 assign:∀r,Tv r.l->Hc (G.X3 r) (Oz fun z=>We z.1/\Tv z.2.l)
theorem Z7i:∀{l:List Z5},(∀x∈l,We x)->∃ps:List (Z5×List (Aa)),l=ps.map (·.1)/\∀q∈ps,WE q.1 q.2
 |[],_=>⟨[],rfl,fun q h=>by cases h⟩
 |x::l,h=>by
  obtain⟨ts,hx⟩:=h x (by simp)
  obtain⟨ps,h1,h2⟩:=Z7i (l:=l) fun y hy=>h y (by simp[hy])
  exact⟨(x,ts)::ps,by simp[h1],fun q hq=>by rcases qZ.1 hq with rfl|hq;exact hx;exact h2 q hq⟩
theorem call_z{p:Pos}{s:Aa}{l:List Z5}(hs:Nm s)(h:∀x∈l,We x):We ⟨7,p,[],s,0,T0n,l⟩:=by
 obtain⟨ps,rfl,h2⟩:=Z7i h;exact⟨_,.call hs h2⟩
section
variable{G:Z1q}(h:Ez G){r:Z0}(hr:Tv r.l)
include h hr
theorem X3l:Hc (P2 G r) (Oz fun z=>(∃x,z.1=[x]/\We x)/\Tv z.2.l):=by
 unfold P2;exact Hc.bz (Q0t hr) fun r1 h1=>Hc.bz (h.assign r1 h1) fun z hz=>Hc.bz (Q0t hz.2) fun r2 h2=>Hc.ok ⟨⟨_,rfl,hz.1⟩,h2⟩
theorem handed_z:Hc (C6 G r) (Oz fun z=>(∀x∈z.1,We x)/\Tv z.2.l):=by
 unfold C6;refine Hc.bz (Q0t hr) fun r1 h1=>Hc.bd (Q1n h1) fun y hy=>Hc.br (fun _=>Hc.ok ⟨no,hy.1⟩) fun _=>Hc.bz (h.assign _ hy.1) fun z hz=>?_;refine Hc.lp (fun s=>(∀x∈s.1,We x)/\Tv s.2.l) ?_ NN _ ⟨fun x hx=>by rw[kQ.1 hx];exact hz.1,hz.2⟩;rintro⟨a,r⟩ ⟨i1,i2⟩;refine Hc.bd (Q1n i2) fun y hy=>Hc.br (fun _=>Hc.bz (h.assign _ hy.1) fun z hz=>Hc.sk fun _=>Hc.ok ⟨fun x hx=>?_,hz.2⟩) fun _=>Hc.ok ?_
 . rcases jQ.1 hx with hx|hx
   . exact i1 x hx
   . rw[kQ.1 hx];exact hz.1
 . exact Hc.bz (Q0t hy.1) fun r2 h2=>Hc.ok ⟨i1,h2⟩
theorem prime_z:Hc (J3 G r) (Oz fun z=>We z.1/\Tv z.2.l):=by
 unfold J3;refine Hc.sk fun p=>?_
 dsimp only[jn]
 refine Hc.bd (Q1n hr) fun y hy=>Hc.br (fun _=>Hc.bz (h.assign _ hy.1) fun z hz=>Hc.bz (Q0t hz.2) fun r2 h2=>Hc.ok ⟨hz.1,h2⟩) fun _=>?_;refine Hc.bd (Q1n hy.1) fun y hy=>Hc.br (fun _=>Hc.bz (Q0t hy.1) fun r2 h2=>Hc.bz (Q0t h2) fun r3 h3=>Hc.ok ⟨⟨_,.inp⟩,h3⟩) fun _=>?_;refine Hc.bd (Q1n hy.1) fun y hy=>Hc.br (fun _=>Hc.bz (h.bracketed _ hy.1) fun z hz=>Hc.ok ⟨?_,hz.2⟩) fun _=>?_
 . obtain⟨x,hx,ts,ht⟩:=hz.1;exact⟨_,by dsimp only;rw[hx];exact .out ht⟩
 refine Hc.br (fun _=>Hc.sk fun t=>Hc.br (fun _=>Hc.bz (X0x hy.1) fun z hz=>Hc.ok ⟨⟨_,.num (hz.1.nu hz.2.1)⟩,hz.2.2⟩) fun _=>Hc.bz (Z7x hy.1) fun z hz=>Hc.sk fun _=>Hc.br (fun _=>Hc.bz (h.handed _ hz.2) fun y hy=>Hc.ok ⟨call_z hz.1 hy.1,hy.2⟩) fun _=>Hc.ok ⟨⟨_,.name hz.1⟩,hz.2⟩) fun _=>Hc.bz (Z7x hy.1) fun z hz=>Hc.sk fun _=>Hc.br (fun _=>Hc.bz (h.handed _ hz.2) fun y hy=>Hc.ok ⟨call_z hz.1 hy.1,hy.2⟩) fun _=>Hc.ok ⟨⟨_,.name hz.1⟩,hz.2⟩
theorem post_z:Hc (D4 G r) (Oz fun z=>We z.1/\Tv z.2.l):=by
 unfold D4;refine Hc.bz (h.prime r hr) fun z hz=>?_;refine Hc.lp (fun s=>We s.1/\Tv s.2.l) ?_ NN _ hz;rintro⟨x,r⟩ ⟨⟨ts,i1⟩,i2⟩
 dsimp only at i1 i2
 obtain⟨m,hm,hm2⟩:=Y7q r
 dsimp only[jn]
 rw[hm,qV]
 by_cases h1:m=[91]
 . subst h1;obtain⟨p,r1,e1,e2⟩:=Y0p (k:=8) i2 (hm2.resolve_left (by decide));rw[c1 (dt rfl),e1,qV];refine Hc.bz (h.assign r1 e2) fun z hz=>Hc.bz (Q0t hz.2) fun r2 h2=>Hc.ok ⟨?_,h2⟩;obtain⟨us,hu⟩:=hz.1;exact⟨_,.idx i1 hu⟩
 rw[c0 (df h1)]
 by_cases h2:m∈mbO
 . obtain⟨p,r1,e1,e2⟩:=Y0p (k:=9) i2 (hm2.resolve_left (by rintro rfl;revert h2;decide))
   have main:Hc ((V4 r 9).bind fun y6=>(U7 y6.2).bind fun y7=>exL y7 (fun y7=>some (Lp.go (({y6.1 with Name:=y7.1,Kids:=([x]:List Z5)}:Z5),y7.2)))) (Nxt (fun s=>We s.1/\Tv s.2.l) fun o=>Hc (o.thn (fun(x1,x2)=>none) (fun r=>some r)) (Oz (E:=Z7×Z0) fun z:Z5×Z0=>We z.1/\Tv z.2.l)):=
    Hc.st e1 (Hc.bz (Z7x e2) fun z hz=>Hc.ok ⟨⟨_,.mem h2 hz.1 i1⟩,hz.2⟩)
   simp only[mbO,qZ,List.not_mem_nil,or_false]at h2
   rcases h2 with rfl|rfl<;>exact main
 by_cases h3:m∈ppO
 . obtain⟨p,r1,e1,e2⟩:=Y0p (k:=11) i2 (hm2.resolve_left (by rintro rfl;revert h3;decide))
   have main:Hc ((V4 r 11).bind fun y8=>some (Lp.go (({y8.1 with Kids:=([x]:List Z5)}:Z5),y8.2))) (Nxt (fun s=>We s.1/\Tv s.2.l) fun o=>Hc (o.thn (fun(x1,x2)=>none) (fun r=>some r)) (Oz (E:=Z7×Z0) fun z:Z5×Z0=>We z.1/\Tv z.2.l)):=
    Hc.st e1 (Hc.ok ⟨⟨_,.post h3 i1⟩,e2⟩)
   simp only[ppO,qZ,List.not_mem_nil,or_false]at h3
   rcases h3 with rfl|rfl<;>exact main
 simp only[mbO,ppO,qZ,List.not_mem_nil,or_false,not_or]at h2 h3
 rw[c0 (df h2.1),df h2.2,Aj,c0 (df h3.1),df h3.2,Aj];exact Hc.ok (Hc.ok ⟨⟨ts,i1⟩,i2⟩)
theorem unary_z:Hc (G9 G r) (Oz fun z=>We z.1/\Tv z.2.l):=by
 unfold G9;refine Hc.bz X1e fun r1 h1=>?_;have i2:Tv r1.l:=by rw[h1];exact hr
 obtain⟨m,hm,hm2⟩:=Y7q r1
 dsimp only[jn]
 rw[hm,qV]
 by_cases h2:m∈unaO
 . obtain⟨p,r2,e1,e2⟩:=Y0p (k:=3) i2 (hm2.resolve_left (by rintro rfl;revert h2;decide))
   have main:Hc ((V4 r1 3).bind fun y3=>(G.X9 y3.2).bind fun y4=>exC y4 (fun y4=>some (qX ({y3.1 with Kids:=([y4.1]:List Z5)},{y4.2 with depth:=qJ .i64 (y4.2.depth-1)}))) (fun e1=>some (qK (e1.1,{e1.2 with depth:=qJ .i64 (e1.2.depth-1)})))) (Oz (E:=Z7×Z0) fun z:Z5×Z0=>We z.1/\Tv z.2.l):=
    Hc.st e1 (Hc.bz (h.unary r2 e2) fun z hz=>Hc.ok ⟨by obtain⟨ts,ht⟩:=hz.1;exact⟨_,.una h2 ht⟩,hz.2⟩)
   simp only[unaO,qZ,List.not_mem_nil,or_false]at h2
   rcases h2 with rfl|rfl|rfl|rfl|rfl<;>exact main
 by_cases h3:m∈ppO
 . obtain⟨p,r2,e1,e2⟩:=Y0p (k:=10) i2 (hm2.resolve_left (by rintro rfl;revert h3;decide))
   have main:Hc ((V4 r1 10).bind fun y3=>(G.X9 y3.2).bind fun y4=>exC y4 (fun y4=>some (qX ({y3.1 with Kids:=([y4.1]:List Z5)},{y4.2 with depth:=qJ .i64 (y4.2.depth-1)}))) (fun e1=>some (qK (e1.1,{e1.2 with depth:=qJ .i64 (e1.2.depth-1)})))) (Oz (E:=Z7×Z0) fun z:Z5×Z0=>We z.1/\Tv z.2.l):=
    Hc.st e1 (Hc.bz (h.unary r2 e2) fun z hz=>Hc.ok ⟨by obtain⟨ts,ht⟩:=hz.1;exact⟨_,.pp h3 ht⟩,hz.2⟩)
   simp only[ppO,qZ,List.not_mem_nil,or_false]at h3
   rcases h3 with rfl|rfl<;>exact main
 simp only[unaO,ppO,qZ,List.not_mem_nil,or_false,not_or]at h2 h3
 rw[c0 (df h2.1),c0 (df h2.2.1),c0 (df h2.2.2.1),c0 (df h2.2.2.2.1),df h2.2.2.2.2,Aj,c0 (df h3.1),df h3.2,Aj];refine Hc.sk fun p=>Hc.bd (Q1n i2) fun y hy=>Hc.br (fun _=>Hc.bz (Q0t hy.1) fun r2 h2=>Hc.bz (Z4r h2) fun z hz=>Hc.bz (Q0t hz.2) fun r3 h3=>Hc.ok ⟨?_,h3⟩) fun _=>Hc.bz (h.post _ hy.1) fun z hz=>Hc.ok hz;obtain⟨ts,ht⟩:=hz.1;exact⟨_,.size ht⟩
theorem binary_z{k:Int}:Hc (D9 G r k) (Oz fun z=>We z.1/\Tv z.2.l):=by
 unfold D9;refine Hc.bz (h.unary r hr) fun z hz=>?_;refine Hc.lp (fun s=>We s.1/\Tv s.2.l) ?_ NN _ hz;rintro⟨x,r⟩ ⟨⟨ts,i1⟩,i2⟩
 dsimp only at i1 i2⊢
 obtain⟨m,hm,hm2⟩:=Y7q r;rw[hm,qV];cases hv:Q2g m with
 |none=>exact Hc.no
 |some v=>
  rw[qV];refine Hc.br (fun _=>Hc.ok (Hc.ok ⟨⟨ts,i1⟩,i2⟩)) fun _=>Hc.br (fun _=>Hc.ok (Hc.ok ⟨⟨ts,i1⟩,i2⟩)) fun h0=>?_;have hb:=rank_mem hv (beq_eq_false_iff_ne.1 h0);obtain⟨p,r1,e1,e2⟩:=Y0p (k:=4) i2 (hm2.resolve_left (by rintro rfl;revert hb;decide));rw[e1,qV];refine Hc.bz (h.binary r1 _ e2) fun z hz=>Hc.ok ⟨?_,hz.2⟩;obtain⟨us,hu⟩:=hz.1;exact⟨_,.bin hb i1 hu⟩
theorem cond_z:Hc (M2 G r) (Oz fun z=>We z.1/\Tv z.2.l):=by
 unfold M2;refine Hc.bz (h.binary r 1 hr) fun z hz=>?_;obtain⟨m,hm,hm2⟩:=Y7q z.2
 dsimp only
 rw[hm,qV];refine Hc.br (fun _=>Hc.ok hz) fun hq=>?_;have hq:m=[63]:=by simpa using hq
 subst hq;obtain⟨p,r1,e1,e2⟩:=Y0p (k:=6) hz.2 (hm2.resolve_left (by decide));rw[e1,qV];refine Hc.bz (h.assign r1 e2) fun y hy=>Hc.bz (Q0t hy.2) fun r2 h2=>Hc.bz X1e fun r3 h3=>Hc.bz (h.cond r3 (by rw[h3];exact h2)) fun x hx=>?_;refine Hc.ok ⟨?_,hx.2⟩;obtain⟨ts,a⟩:=hz.1;obtain⟨us,b⟩:=hy.1;obtain⟨vs,c⟩:=hx.1;exact⟨_,.cond a b c⟩
theorem assign_z:Hc (B9 G r) (Oz fun z=>We z.1/\Tv z.2.l):=by
 unfold B9;refine Hc.bz X1e fun r1 h1=>Hc.bz (h.cond r1 (by rw[h1];exact hr)) fun z hz=>?_;obtain⟨m,hm,hm2⟩:=Y7q z.2
 dsimp only
 rw[hm,qV];cases hv:Q0q m with
 |none=>exact Hc.no
 |some v=>
  rw[qV];refine Hc.br (fun _=>Hc.ok hz) fun hq=>?_;have hq:v=true:=by simpa using hq
  subst hq;have hb:=asg_mem hv;obtain⟨p,r1,e1,e2⟩:=Y0p (k:=5) hz.2 (hm2.resolve_left (by rintro rfl;revert hb;decide));rw[e1,qV];refine Hc.bz (h.assign r1 e2) fun y hy=>Hc.ok ⟨?_,hy.2⟩;obtain⟨ts,a⟩:=hz.1;obtain⟨us,b⟩:=hy.1;exact⟨_,.asg hb a b⟩
end
theorem rdZ1:∀n,Ez (M1 n)
 |0=>⟨fun _ _=>Hc.no,fun _ _=>Hc.no,fun _ _=>Hc.no,fun _ _=>Hc.no,fun _ _=>Hc.no,fun _ _ _=>Hc.no,fun _ _=>Hc.no,fun _ _=>Hc.no⟩
 |n+1=>have h:=rdZ1 n;⟨fun _ hr=>X3l h hr,fun _ hr=>handed_z h hr,fun _ hr=>prime_z h hr,fun _ hr=>post_z h hr,fun _ hr=>unary_z h hr,fun _ _ hr=>binary_z h hr,fun _ hr=>cond_z h hr,fun _ hr=>assign_z h hr⟩
def Wvv(v:J2):Prop:=∃ts,WV v ts
def Wst(x:V8):Prop:=∃ts,WS x ts
theorem Y4s{r:Z0}(h:Tv r.l):Hc (X3 r) (Oz fun z=>We z.1/\Tv z.2.l):=(rdZ1 NN).assign r h
theorem X1l{r:Z0}(h:Tv r.l):Hc (U1 r) (Oz fun z=>(∃x,z.1=[x]/\We x)/\Tv z.2.l):=(rdZ1 NN).bracketed r h
section
variable{r:Z0}
theorem dims_z(h:Tv r.l):Hc (W0 r) (Oz fun z=>(∀d∈z.1,U32 d)/\Tv z.2.l):=by
 unfold W0;refine Hc.lp (fun s=>(∀d∈s.1,U32 d)/\Tv s.2.l) ?_ NN _ ⟨no,h⟩;rintro⟨a,r⟩ ⟨i1,i2⟩;refine Hc.bd (Q1n i2) fun y hy=>Hc.br (fun _=>Hc.bz (X0x hy.1) fun z hz=>Hc.sk fun _=>Hc.bz (Q0t hz.2.2) fun r2 h2=>Hc.ok ⟨fun d hd=>?_,h2⟩) fun _=>Hc.ok (Hc.ok ⟨i1,hy.1⟩)
 rcases jQ.1 hd with hd|hd
 . exact i1 d hd
 . rw[kQ.1 hd];exact hz.1.nu hz.2.1
theorem wv_mk{p:Pos}{t:K6}{s:Aa}{ds:List Int}{l:List Z5}{b:Bool}(ht:∃ts,WT t ts)(hs:Nm s)(hd:∀d∈ds,U32 d)(hl:∀x∈l,We x)(hb:b=false->l.length<=1)(hc:b=true->1<=l.length):Wvv ⟨p,t,s,ds,l,b⟩:=by
 obtain⟨tt,ht⟩:=ht;obtain⟨ps,rfl,h2⟩:=Z7i hl;rw[List.length_map]at hb hc;exact⟨_,.mk ht hs hd h2 hb hc⟩
theorem X3o{p:Pos}{t:K6}{s:Aa}(ht:∃ts,WT t ts)(hs:Nm s)(h:Tv r.l):Hc (B5 r ⟨p,t,s,[],[],false⟩) (Oz fun z=>Wvv z.1/\Tv z.2.l):=by
 unfold B5;refine Hc.bz (dims_z h) fun z hz=>?_;refine Hc.j2 (fun v r=>Wvv v/\Tv r.l) (fun v r h=>Hc.bz (Q0t h.2) fun r2 h2=>Hc.ok ⟨h.1,h2⟩) fun c hk=>?_;refine Hc.bd (Q1n hz.2) fun y hy=>Hc.br (fun _=>Hc.bd (Q1n hy.1) fun w hw=>Hc.bz (Y4s hw.1) fun x hx=>Hc.sk fun _=>?_) fun _=>hk _ _ ⟨wv_mk ht hs hz.1 no (fun _=>kX _) (fun h=>by cases h),hy.1⟩;refine Hc.lp (fun u=>∃l,u.1=⟨p,t,s,z.1,l,w.1⟩/\(∀x∈l,We x)/\(w.1=false->l.length<=1)/\1<=l.length/\Tv u.2.l) ?_ NN _ ⟨[x.1],rfl,fun y hy=>by rw[kQ.1 hy];exact hx.1,fun _=>Nat.le_refl _,Nat.le_refl _,hx.2⟩;rintro⟨v,r⟩ ⟨l,h1,h2,h3,h4,h5⟩
 dsimp only at h1 h5⊢
 subst h1
 dsimp only
 have hv:=wv_mk (p:=p) ht hs hz.1 h2 h3 fun _=>h4;refine Hc.br (fun hb=>Hc.bd (Q1n h5) fun y hy=>Hc.br (fun _=>Hc.bz (Y4s hy.1) fun x hx=>Hc.sk fun _=>Hc.ok ⟨l++[x.1],rfl,fun y hy=>?_,(fun h=>by rw[h]at hb;cases hb),by simp,hx.2⟩) fun _=>Hc.ok (Hc.br (fun _=>Hc.bz (Q0t hy.1) fun r2 h2=>hk _ _ ⟨hv,h2⟩) fun _=>hk _ _ ⟨hv,hy.1⟩)) fun _=>Hc.ok (Hc.br (fun _=>Hc.bz (Q0t h5) fun r2 h2=>hk _ _ ⟨hv,h2⟩) fun _=>hk _ _ ⟨hv,h5⟩)
 rcases jQ.1 hy with hy|hy
 . exact h2 y hy
 . rw[kQ.1 hy];exact hx.1
theorem X3v(h:Tv r.l):Hc (C5 r) (Oz fun z=>Wvv z.1/\Tv z.2.l):=by
 unfold C5;exact Hc.sk fun p=>Hc.bz (Z4r h) fun z hz=>Hc.bz (Z7x hz.2) fun y hy=>Hc.bz (X3o hz.1 hy.1 hy.2) fun x hx=>Hc.ok hx
def Wb(v:J2):Prop:=Wvv v/\v.Init=[]/\v.Brace=false
theorem fields_z(h:Tv r.l):Hc (R8 r) (Oz fun z=>(∀v∈z.1,Wb v)/\Tv z.2.l):=by
 unfold R8;refine Hc.bz (Q0t h) fun r1 h1=>?_;refine Hc.lp (fun s=>(∀v∈s.1,Wb v)/\Tv s.2.l) ?_ NN _ ⟨no,h1⟩;rintro⟨a,r⟩ ⟨i1,i2⟩;refine Hc.bd (Q1n i2) fun y hy=>Hc.br (fun _=>Hc.sk fun p=>Hc.bz (Z4r hy.1) fun z hz=>Hc.bz (Z7x hz.2) fun w hw=>Hc.bz (dims_z hw.2) fun d hd=>Hc.bz (Q0t hd.2) fun r2 h2=>Hc.sk fun _=>Hc.ok ⟨fun v hv=>?_,h2⟩) fun _=>Hc.ok (Hc.bz (Q0t hy.1) fun r2 h2=>Hc.ok ⟨i1,h2⟩)
 rcases jQ.1 hv with hv|hv
 . exact i1 v hv
 . rw[kQ.1 hv];exact⟨wv_mk hz.1 hw.1 hd.1 no (fun _=>kX _) (fun h=>by cases h),rfl,rfl⟩
theorem params_z(h:Tv r.l):Hc (P5 r) (Oz fun z=>(∀v∈z.1,Wb v/\v.Dims=[])/\Tv z.2.l):=by
 unfold P5;refine Hc.bz (Q0t h) fun r1 h1=>?_;refine Hc.j1 (fun x=>Tv x.l) (fun x1 hx=>?_) fun c hk=>Hc.sk fun b=>Hc.br (fun _=>Hc.sk fun c=>Hc.br (fun _=>Hc.bz (Q0t h1) fun r2 h2=>hk _ h2) fun _=>hk _ h1) fun _=>hk _ h1;refine Hc.bd (Q1n hx) fun y hy=>Hc.br (fun _=>Hc.ok ⟨no,hy.1⟩) fun _=>?_;refine Hc.lp (fun s=>(∀v∈s.1,Wb v/\v.Dims=[])/\Tv s.2.l) ?_ NN _ ⟨no,hy.1⟩;rintro⟨a,r⟩ ⟨i1,i2⟩;refine Hc.sk fun p=>Hc.bz (Z4r i2) fun z hz=>Hc.bz (Z7x hz.2) fun w hw=>Hc.sk fun _=>Hc.bd (Q1n hw.2) fun y hy=>?_
 have all:∀v∈a++[(⟨p,z.1,w.1,[],[],false⟩:J2)],Wb v/\v.Dims=[]:=fun v hv=>by
  rcases jQ.1 hv with hv|hv
  . exact i1 v hv
  . rw[kQ.1 hv];exact⟨⟨wv_mk hz.1 hw.1 no no (fun _=>kX _) (fun h=>by cases h),rfl,rfl⟩,rfl⟩
 exact Hc.br (fun _=>Hc.bz (Q0t hy.1) fun r2 h2=>Hc.ok (Hc.ok ⟨all,h2⟩)) fun _=>Hc.ok ⟨all,hy.1⟩
theorem X0n{m:Aa}(h:Tv r.l):Hc (B6 r m) (Oz fun z=>((∀x∈z.1,We x)/\z.1.length<=1)/\Tv z.2.l):=by
 unfold B6;exact Hc.bd (Q1n h) fun y hy=>Hc.br (fun _=>Hc.ok ⟨⟨no,kX _⟩,hy.1⟩) fun _=>Hc.bz (Y4s hy.1) fun z hz=>Hc.bz (Q0t hz.2) fun r2 h2=>Hc.ok ⟨⟨fun x hx=>by rw[kQ.1 hx];exact hz.1,Nat.le_refl _⟩,h2⟩
theorem short_z{p:Pos}(h:Tv r.l):Hc (N7 r ⟨0,p,[],[],[],[],[],[],[]⟩) (Oz fun z=>Wst z.2/\Tv z.1.l):=by
 unfold N7;refine Hc.bd (Q1n h) fun y hy=>Hc.br (fun _=>Hc.bz (X0n hy.1) fun z hz=>Hc.ok ⟨?_,hz.2⟩) fun _=>?_
 . obtain⟨ps,h1,h2⟩:=Z7i hz.1.1;have h3:=hz.1.2
   dsimp only
   rw[h1,List.length_map]at h3;rw[h1];exact⟨_,.ret h2 h3⟩
 refine Hc.bd (Q1n hy.1) fun y hy=>Hc.br (fun _=>Hc.bz (Q0t hy.1) fun r2 h2=>Hc.ok ⟨⟨_,.brk⟩,h2⟩) fun _=>?_;refine Hc.bd (Q1n hy.1) fun y hy=>Hc.br (fun _=>Hc.bz (Q0t hy.1) fun r2 h2=>Hc.ok ⟨⟨_,.cnt⟩,h2⟩) fun _=>?_;refine Hc.bz (Y4s hy.1) fun z hz=>Hc.bz (Q0t hz.2) fun r2 h2=>Hc.ok ⟨?_,h2⟩;obtain⟨ts,ht⟩:=hz.1;exact⟨_,.expr ht⟩
theorem Z3a:∀{l:List V8},(∀x∈l,Wst x)->∃qs:List (V8×Tts),l=qs.map (·.1)/\∀q∈qs,WS q.1 q.2
 |[],_=>⟨[],rfl,no⟩
 |x::l,h=>by
  obtain⟨ts,hx⟩:=h x (by simp)
  obtain⟨ps,h1,h2⟩:=Z3a (l:=l) fun y hy=>h y (by simp[hy])
  exact⟨(x,ts)::ps,by simp[h1],fun q hq=>by rcases qZ.1 hq with rfl|hq;exact hx;exact h2 q hq⟩
def Wca(c:R5):Prop:=U32 c.Num/\(c.Default=true->c.Num=0)/\∀x∈c.Body,Wst x
theorem X5c:∀{l:List R5},(∀c∈l,Wca c)->∃cs:List Cq,l=cs.map mkC/\(∀c∈cs,U32 c.1.2.2/\(c.1.2.1=true->c.1.2.2=0))/\∀c∈cs,∀q∈c.2,WS q.1 q.2
 |[],_=>⟨[],rfl,no,no⟩
 |⟨p,d,m,b⟩::l,h=>by
  obtain⟨a1,a2,a3⟩:=h ⟨p,d,m,b⟩ (by simp)
  obtain⟨cs,h1,h2,h3⟩:=X5c (l:=l) fun y hy=>h y (by simp[hy])
  obtain⟨qs,e1,e2⟩:=Z3a a3
  dsimp only at e1 a1 a2
  subst e1
  exact⟨((p,d,m),qs)::cs,by simp[h1,mkC],fun q hq=>by rcases qZ.1 hq with rfl|hq;exact⟨a1,a2⟩;exact h2 q hq,fun q hq=>by rcases qZ.1 hq with rfl|hq;exact e2;exact h3 q hq⟩
structure Fz(G:Y6g):Prop where
 body:∀r,Tv r.l->Hc (G.J9 r) (Oz fun z=>(∀x∈z.1,Wst x)/\Tv z.2.l)
 cases:∀r,Tv r.l->Hc (G.N9 r) (Oz fun z=>(∀x∈z.1,Wca x)/\Tv z.2.l)
 stmt:∀r,Tv r.l->Hc (G.J1 r) (Oz fun z=>(Wst z.1/\∀x∈z.1.Body,Wst x)/\Tv z.2.l)
 block:∀r,Tv r.l->Hc (G.G7 r) (Oz fun z=>(∀x∈z.1,Wst x)/\Tv z.2.l)
end
theorem WS.sub{x:V8}(h:Wst x):∀y∈x.Body,Wst y:=by
 obtain⟨ts,h⟩:=h
 have mm:∀{qs:List (V8×Tts)},(∀q∈qs,WS q.1 q.2)->∀y∈qs.map (·.1),Wst y:=fun h y hy=>by
  obtain⟨q,h1,rfl⟩:=List.mem_map.1 hy;exact⟨_,h q h1⟩
 have no:∀y∈([]:List V8),Wst y:=no;cases h with
 |expr h=>exact no
 |var h=>exact no
 |iff h k=>exact mm k
 |els h k j hr=>exact mm k
 |whl h k=>exact mm k
 |doo h k=>exact mm k
 |forr ha hb hc la lb lc k=>exact mm k
 |swi h hc k=>exact no
 |ret ha la=>exact no
 |brk=>exact no
 |cnt=>exact no
 |bl k=>exact mm k
 |emp=>exact no
section
variable{G:Y6g}(h:Fz G){r:Z0}(hr:Tv r.l)
include h hr
theorem body_z:Hc (R9 G r) (Oz fun z=>(∀x∈z.1,Wst x)/\Tv z.2.l):=by
 unfold R9;exact Hc.bz (h.stmt r hr) fun z hz=>Hc.br (fun _=>Hc.ok ⟨hz.1.2,hz.2⟩) fun _=>Hc.ok ⟨fun x hx=>by rw[kQ.1 hx];exact hz.1.1,hz.2⟩
theorem block_z:Hc (I9 G r) (Oz fun z=>(∀x∈z.1,Wst x)/\Tv z.2.l):=by
 unfold I9;refine Hc.bz (Q0t hr) fun r1 h1=>?_;refine Hc.lp (fun s=>(∀v∈s.1,Wst v)/\Tv s.2.l) ?_ NN _ ⟨no,h1⟩;rintro⟨a,r⟩ ⟨i1,i2⟩;refine Hc.bd (Q1n i2) fun y hy=>Hc.br (fun _=>Hc.bz (h.stmt _ hy.1) fun z hz=>Hc.sk fun _=>Hc.ok ⟨fun x hx=>?_,hz.2⟩) fun _=>Hc.ok (Hc.ok ⟨i1,hy.1⟩)
 rcases jQ.1 hx with hx|hx
 . exact i1 x hx
 . rw[kQ.1 hx];exact hz.1.1
theorem cases_z:Hc (I8 G r) (Oz fun z=>(∀x∈z.1,Wca x)/\Tv z.2.l):=by
 unfold I8;refine Hc.bz (Q0t hr) fun r1 h1=>?_;refine Hc.lp (fun s=>(∀v∈s.1,Wca v)/\Tv s.2.l) ?_ NN _ ⟨no,h1⟩;rintro⟨a,r⟩ ⟨i1,i2⟩;have nob:∀x∈([]:List V8),Wst x:=no;refine Hc.bd (Q1n i2) fun y hy=>Hc.br (fun _=>Hc.sk fun p=>Hc.j2 (fun c r=>Wca c/\Tv r.l) (fun x4 x5 h45=>?_) fun c hc=>Hc.bd (Q1n hy.1) fun w hw=>Hc.br (fun _=>hc _ _ ⟨⟨Z6n,fun _=>rfl,nob⟩,hw.1⟩) fun _=>Hc.bz (Q0t hw.1) fun r2 h2=>Hc.bd (Q1n h2) fun m hm=>Hc.bz (X0x hm.1) fun k hk=>Hc.br (fun _=>hc _ _ ⟨⟨Y1u _,(fun h=>by cases h),nob⟩,hk.2.2⟩) fun _=>hc _ _ ⟨⟨hk.1.nu hk.2.1,(fun h=>by cases h),nob⟩,hk.2.2⟩) fun _=>Hc.ok (Hc.ok ⟨i1,hy.1⟩);refine Hc.bz (Q0t h45.2) fun r2 h2=>?_;refine Hc.lp (fun s=>Wca s.1/\Tv s.2.l) ?_ NN _ ⟨h45.1,h2⟩;rintro⟨x,r⟩ ⟨j1,j2⟩
 have all:∀c∈a++[x],Wca c:=fun c hc=>by
  rcases jQ.1 hc with hc|hc
  . exact i1 c hc
  . rw[kQ.1 hc];exact j1
 refine Hc.sk fun _=>Hc.br (fun _=>Hc.sk fun _=>Hc.br (fun _=>Hc.sk fun _=>Hc.br (fun _=>Hc.bz (h.stmt _ j2) fun z hz=>Hc.sk fun _=>Hc.ok ⟨⟨j1.1,j1.2.1,fun y hy=>?_⟩,hz.2⟩) fun _=>Hc.ok (Hc.sk fun _=>Hc.ok ⟨all,j2⟩)) fun _=>Hc.ok (Hc.sk fun _=>Hc.ok ⟨all,j2⟩)) fun _=>Hc.ok (Hc.sk fun _=>Hc.ok ⟨all,j2⟩)
 rcases jQ.1 hy with hy|hy
 . exact j1.2.2 y hy
 . rw[kQ.1 hy];exact hz.1.1
theorem stmt_z:Hc (V0 G r) (Oz fun z=>(Wst z.1/\∀x∈z.1.Body,Wst x)/\Tv z.2.l):=by
 refine Hc.oz (P:=fun z=>Wst z.1/\Tv z.2.l) ?_ fun z hz=>⟨⟨hz.1,WS.sub hz.1⟩,hz.2⟩;unfold V0;refine Hc.bz X1e fun r1 h1=>Hc.sk fun p=>?_;have i:Tv r1.l:=by rw[h1];exact hr
 dsimp only[jn]
 refine Hc.sk fun _=>Hc.br (fun _=>Hc.bz (X3v i) fun z hz=>Hc.ok ⟨?_,hz.2⟩) fun _=>?_
 . obtain⟨ts,ht⟩:=hz.1;exact⟨_,.var ht⟩
 refine Hc.sk fun _=>Hc.br (fun _=>Hc.bz (h.block _ i) fun z hz=>Hc.ok ⟨?_,hz.2⟩) fun _=>?_
 . obtain⟨qs,e1,e2⟩:=Z3a hz.1
   dsimp only
   rw[e1];exact⟨_,.bl e2⟩
 refine Hc.bd (Q1n i) fun y hy=>Hc.br (fun _=>Hc.ok ⟨⟨_,.emp⟩,hy.1⟩) fun _=>?_;refine Hc.bd (Q1n hy.1) fun y hy=>Hc.br (fun _=>Hc.bz (X1l hy.1) fun z hz=>Hc.bz (h.body _ hz.2) fun b hb=>Hc.bd (Q1n hb.2) fun w hw=>Hc.br (fun _=>Hc.bz (h.body _ hw.1) fun c hc=>Hc.ok ⟨?_,hc.2⟩) fun _=>Hc.ok ⟨?_,hw.1⟩) fun _=>?_
 . obtain⟨x,hx,ts,ht⟩:=hz.1;obtain⟨qs,e1,e2⟩:=Z3a hb.1;obtain⟨rs,e3,e4⟩:=Z3a hc.1
   dsimp only
   rw[hx,e1,e3];cases rs with
   |nil=>exact⟨_,.iff ht e2⟩
   |cons q rs=>exact⟨_,.els ht e2 e4 (by simp)⟩
 . obtain⟨x,hx,ts,ht⟩:=hz.1;obtain⟨qs,e1,e2⟩:=Z3a hb.1
   dsimp only
   rw[hx,e1];exact⟨_,.iff ht e2⟩
 refine Hc.bd (Q1n hy.1) fun y hy=>Hc.br (fun _=>Hc.bz (X1l hy.1) fun z hz=>Hc.bz (h.body _ hz.2) fun b hb=>Hc.ok ⟨?_,hb.2⟩) fun _=>?_
 . obtain⟨x,hx,ts,ht⟩:=hz.1;obtain⟨qs,e1,e2⟩:=Z3a hb.1
   dsimp only
   rw[hx,e1];exact⟨_,.whl ht e2⟩
 refine Hc.bd (Q1n hy.1) fun y hy=>Hc.br (fun _=>Hc.bz (h.body _ hy.1) fun b hb=>Hc.bz (Q0t hb.2) fun r2 h2=>Hc.bz (X1l h2) fun z hz=>Hc.bz (Q0t hz.2) fun r3 h3=>Hc.ok ⟨?_,h3⟩) fun _=>?_
 . obtain⟨x,hx,ts,ht⟩:=hz.1;obtain⟨qs,e1,e2⟩:=Z3a hb.1
   dsimp only
   rw[hx,e1];exact⟨_,.doo ht e2⟩
 refine Hc.bd (Q1n hy.1) fun y hy=>Hc.br (fun _=>Hc.bz (Q0t hy.1) fun r2 h2=>Hc.bz (X0n h2) fun a ha=>Hc.bz (X0n ha.2) fun b hb=>Hc.bz (X0n hb.2) fun c hc=>Hc.bz (h.body _ hc.2) fun d hd=>Hc.ok ⟨?_,hd.2⟩) fun _=>?_
 . obtain⟨as,a1,a2⟩:=Z7i ha.1.1;obtain⟨bs,b1,b2⟩:=Z7i hb.1.1;obtain⟨cs,c1',c2⟩:=Z7i hc.1.1;obtain⟨qs,e1,e2⟩:=Z3a hd.1;have la:=ha.1.2;have lb:=hb.1.2;have lc:=hc.1.2;rw[a1,List.length_map]at la;rw[b1,List.length_map]at lb;rw[c1',List.length_map]at lc
   dsimp only
   rw[a1,b1,c1',e1];exact⟨_,.forr a2 b2 c2 la lb lc e2⟩
 refine Hc.bd (Q1n hy.1) fun y hy=>Hc.br (fun _=>Hc.bz (X1l hy.1) fun z hz=>Hc.bz (h.cases _ hz.2) fun c hc=>Hc.ok ⟨?_,hc.2⟩) fun _=>Hc.bz (short_z hy.1) fun z hz=>Hc.ok hz;obtain⟨x,hx,ts,ht⟩:=hz.1;obtain⟨cs,e1,e2,e3⟩:=X5c hc.1
 dsimp only
 rw[hx,e1];exact⟨_,.swi ht e2 e3⟩
end
theorem rdZ2:∀n,Fz (Q5s n)
 |0=>⟨fun _ _=>Hc.no,fun _ _=>Hc.no,fun _ _=>Hc.no,fun _ _=>Hc.no⟩
 |n+1=>have h:=rdZ2 n;⟨fun _ hr=>body_z h hr,fun _ hr=>cases_z h hr,fun _ hr=>stmt_z h hr,fun _ hr=>block_z h hr⟩
theorem block_y{r:Z0}(h:Tv r.l):Hc (G7 r) (Oz fun z=>(∀x∈z.1,Wst x)/\Tv z.2.l):=(rdZ2 NN).block r h
structure Wpp(p:U3):Prop where
 s:∀x∈p.Structs,∃ts,WU x ts
 g:∀x∈p.Globals,Wvv x
 f:∀x∈p.Funcs,∃ts,WF x ts
theorem Y1l{α:Type}{R:α->Tts->Prop}:∀{l:List α},(∀x∈l,∃ts,R x ts)->∃qs:List (α×Tts),l=qs.map (·.1)/\∀q∈qs,R q.1 q.2
 |[],_=>⟨[],rfl,no⟩
 |x::l,h=>by
  obtain⟨ts,hx⟩:=h x (by simp)
  obtain⟨ps,h1,h2⟩:=Y1l (l:=l) fun y hy=>h y (by simp[hy])
  exact⟨(x,ts)::ps,by simp[h1],fun q hq=>by rcases qZ.1 hq with rfl|hq;exact hx;exact h2 q hq⟩
theorem Wpp.all{p:U3}(h:Wpp p):∃ts,WP p ts:=by
 obtain⟨a,b,c⟩:=p;obtain⟨us,a1,a2⟩:=Y1l h.s;obtain⟨gs,b1,b2⟩:=Y1l (R:=WV) h.g;obtain⟨fs,c1',c2⟩:=Y1l h.f
 dsimp only at a1 b1 c1'
 subst a1 b1 c1';exact⟨_,.mk a2 b2 c2⟩
theorem outT_z{r:Z0}{p:U3}{q:Pos}(hp:Wpp p)(h:Tv r.l):Hc (outT r p q) (Oz fun z=>Wpp z.2/\Tv z.1.l):=by
 unfold outT;refine Hc.bz (Z4r h) fun t ht=>Hc.bz (Z7x ht.2) fun s hs=>Hc.sk fun _=>Hc.br (fun _=>Hc.bz (X3o ht.1 hs.1 hs.2) fun v hv=>Hc.sk fun _=>Hc.ok ⟨⟨hp.s,fun x hx=>?_,hp.f⟩,hv.2⟩) fun _=>?_
 . rcases jQ.1 hx with hx|hx
   . exact hp.g x hx
   . rw[kQ.1 hx];exact hv.1
 dsimp only[jn]
 refine Hc.bz (params_z hs.2) fun v hv=>Hc.bz (block_y hv.2) fun b hb=>Hc.sk fun _=>Hc.ok ⟨⟨hp.s,hp.g,fun x hx=>?_⟩,hb.2⟩
 rcases jQ.1 hx with hx|hx
 . exact hp.f x hx
 . rw[kQ.1 hx];obtain⟨tt,ht1⟩:=ht.1;obtain⟨qs,e1,e2⟩:=Z3a hb.1
   obtain⟨ps,e3,e4⟩:=Y1l (R:=fun v ts=>WV v ts/\v.Init=[]/\v.Brace=false/\v.Dims=[]) fun x hx=>by
    obtain⟨⟨⟨ts,h1⟩,h2,h3⟩,h4⟩:=hv.1 x hx;exact⟨ts,h1,h2,h3,h4⟩
   rw[e1,e3];exact⟨_,.mk ht1 hs.1 e4 e2⟩
theorem outer_z{r:Z0}{p:U3}(hp:Wpp p)(h:Tv r.l):Hc (N8 r p) (Oz fun z=>Wpp z.2/\Tv z.1.l):=by
 unfold N8;refine Hc.sk fun q=>Hc.sk fun _=>Hc.br (fun _=>Hc.sk fun _=>Hc.br (fun _=>Hc.bz (Q0t h) fun r1 h1=>?_) fun _=>outT_z hp h) fun _=>outT_z hp h
 dsimp only[jn]
 refine Hc.bz (Z7x h1) fun s hs=>Hc.bz (fields_z hs.2) fun f hf=>Hc.sk fun _=>Hc.ok ⟨⟨fun x hx=>?_,hp.g,hp.f⟩,hf.2⟩
 rcases jQ.1 hx with hx|hx
 . exact hp.s x hx
 . rw[kQ.1 hx]
   obtain⟨ps,e3,e4⟩:=Y1l (R:=fun v ts=>WV v ts/\v.Init=[]/\v.Brace=false) fun x hx=>by
    obtain⟨⟨ts,h1⟩,h2,h3⟩:=hf.1 x hx;exact⟨ts,h1,h2,h3⟩
   rw[e3];exact⟨_,.mk hs.1 e4⟩
theorem try_z{r:Z0}(h:Tv r.l):Hc (Q0k r) (Oz fun z=>Wpp z.1):=by
 unfold Q0k;refine Hc.lp (fun s=>Wpp s.1/\Tv s.2.l) ?_ NN _ ⟨⟨no,no,no⟩,h⟩;rintro⟨p,r⟩ ⟨i1,i2⟩;exact Hc.br (fun _=>Hc.bz (outer_z i1 i2) fun z hz=>Hc.ok hz) fun _=>Hc.ok (Hc.ok i1)
theorem read_z{s:Aa}(hl:s.length<=65536){q:U3}{a:Pos}(hr:Q5i s=some (q,a,0)):∃l e,Z7z s=some (l,e,0)/\Lx s (l.map Z4v)/\Wpp q/\∃r,Q0k ⟨l,e,0⟩=some (.ok (q,r)):=by
 obtain⟨⟨l,e,f⟩,ey,hy⟩:=Y9l _ hl;unfold Q5i at hr;rw[ey,qV]at hr
 dsimp only at hr hy
 by_cases hf:f=0
 . have hx:Lx s (l.map Z4v):=by
    rcases hy with hy|hy
    . exact hy.2.1
    . exact absurd hf hy.1
   subst hf;rw[c0 (show((0:Int)!=0)=false from rfl)]at hr;obtain⟨z,hz,hr⟩:=bindS hr
   have hT:Tv l:=⟨fun t ht=>by
    have:=lx_form hx (by omega) (Z4v t) (List.mem_map_of_mem ht);exact⟨this.nm,this.wd,this.nu,this.ma⟩,by have:=(lx_cnt hx (by omega)).1;rw[List.length_map]at this;omega⟩
   have:=try_z (r:=⟨l,e,0⟩) hT z hz;cases z with
   |ok z=>
    obtain⟨z1,z2⟩:=z;have e2:=oI hr
    simp only[Prod.mk.injEq]at e2
    obtain⟨rfl,_⟩:=e2;exact⟨l,e,ey,hx,this,z2,hz⟩
   |error z=>
    have e2:=oI hr
    simp only[Prod.mk.injEq]at e2
    exact absurd e2.2.2 this
 . rw[c1 (by simpa using hf)]at hr;have e2:=oI hr
   simp only[Prod.mk.injEq]at e2
   exact absurd e2.2.2 hf
theorem read_r{x:U3}{ts:Tts}(h:WP x ts)(hl:(Lib.join ts [32]).length<=65536){q:U3}{a:Pos}(hr:Q5i (Lib.join ts [32])=some (q,a,0)):EqP x q:=by
 obtain⟨l,e,_,hx,_,r,hz⟩:=read_z hl hr;exact try_r h (r:=⟨l,e,0⟩) (X0u ts _ l h.tx (by omega) hx rfl) _ hz
theorem join_len(s:Aa):∀l:List (Aa),(∀x∈l,x.length<=70000)->(Go.Lib.join l s).length<=l.length*(70000+s.length):=by
 have tail:∀l:List (Aa),(∀x∈l,x.length<=70000)->(Go.Lib.joinTail s l).length<=l.length*(70000+s.length):=by
  intro l
  induction l with
  |nil=>intro _;simp[Go.Lib.joinTail]
  |cons x l ih=>
   intro h;have h1:=h x (by simp);have h2:=ih fun y hy=>h y (by simp[hy]);rw[show Go.Lib.joinTail s (x::l)=(s++x)++Go.Lib.joinTail s l from rfl]
   simp only[qW,qY,Nat.add_mul]
   omega
 intro l h;cases l with
 |nil=>simp[Go.Lib.join]
 |cons x l=>
  have h1:=h x (by simp);have h2:=tail l fun y hy=>h y (by simp[hy]);rw[Go.Lib.join_cons]
  simp only[qW,qY,Nat.add_mul]
  omega
theorem wV_in(v:J2):sm wE v.Init<=wV v/\v.Dims.length<=wV v:=by unfold wV;exact⟨by omega,by omega⟩
theorem print_w{p:U3}{ts:Tts}(h:WP p ts)(hw:wP p<=5000):Z4t p=some (Lib.join ts [32]):=by
 have hlen:ts.length<=60000:=by have:=h.len;omega
 have htx:=h.tx
 have hj:=join_len [32] ts fun s hs=>by
  obtain⟨k,n,hx⟩:=htx s hs;have:=hx.len;omega
 have hj2:(Lib.join ts [32]).length<=8589934592:=by
  refine Nat.le_trans hj ?_;have:ts.length*70001<=60000*70001:=Nat.mul_le_mul_right _ (by omega)
  simp only[qY,jF]
  omega
 cases h with
 |@mk us gs fs hu hg hf=>
  have hw:sm wT (us.map (·.1))+sm wV (gs.map (·.1))+sm wF (fs.map (·.1))<=5000:=hw;have lu:=sml (f:=fun q:S8×Tts=>q.1) X0c us;have lg:=sml (f:=fun q:J2×Tts=>q.1) Z4q gs;have lf:=sml (f:=fun q:L6×Tts=>q.1) X0d fs
  simp only[qW]at hlen
  unfold Z4t;refine Z9v (us.map (·.1)) (us.map (·.2)) (by simp) (by simp;omega) ⟨[]⟩ (by simp only[jF];omega) (fun k hk h2 v hv=>?_) (fun v=>by dsimp only;rw[c0 (dge _)]) ?_
  . have hk':k<us.length:=by simpa using hk
    rw[List.getElem_map]at hv⊢
    dsimp only
    rw[c1 (dlt hk),E8 hk,qV,List.getElem_map];have hm:=jT hk';have hws:=smq (w:=wT) (f:=fun q:S8×Tts=>q.1) hm;have hq:=hu _ hm
    generalize us[k]=q at hv hq hws⊢
    obtain⟨x,xs⟩:=q;cases hq with
    |@mk p s ps hs hh=>
     have hws:1+sm wV (ps.map (·.1))<=sm wT (us.map (·.1)):=hws
     dsimp only at hv⊢
     have lp:=sml (f:=fun q:J2×Tts=>q.1) Z4q ps
     simp only[qY,qW,jF]at hv
     rw[Q7c (by simp;omega),qV];refine Z9v (ps.map (·.1)) (ps.map fun q=>q.2++[[59]]) (by simp) (by simp;omega) _ (by simp only[qY,qW,jF];omega) (fun k hk h2 u hu=>?_) (fun v=>by dsimp only;rw[c0 (dge _)]) ?_
     . have hk':k<ps.length:=by simpa using hk
       rw[List.getElem_map]at hu⊢;have hm:=jT hk';have hwv:=smq (w:=wV) (f:=fun q:J2×Tts=>q.1) hm;have hvi:=wV_in (ps[k]'hk').1
       dsimp only
       simp only[qY,qW,jF]at hu
       have e:=Z7j (hh _ hm).1 (by omega) (by omega) u (by omega)
       dsimp only at e
       rw[c1 (dlt hk),E8 hk,qV,List.getElem_map,e,qV,Q7c (by simp only[qY,qW,jF];omega)]
       simp
     . dsimp only[Lp.thn]
       rw[Q7c (by simp only[qY,qW,jF];omega)]
       simp[Q1z]
  dsimp only[Lp.thn]
  refine Z9v (gs.map (·.1)) (gs.map fun q=>q.2++[[59]]) (by simp) (by simp;omega) _ (by simp only[jV];omega) (fun k hk h2 v hv=>?_) (fun v=>by dsimp only;rw[c0 (dge _)]) ?_
  . have hk':k<gs.length:=by simpa using hk
    rw[List.getElem_map]at hv⊢;have hm:=jT hk';have hwv:=smq (w:=wV) (f:=fun q:J2×Tts=>q.1) hm;have hvi:=wV_in (gs[k]'hk').1
    dsimp only
    simp only[qY,qW,jF]at hv
    have e:=Z7j (hg _ hm) (by omega) (by omega) v (by omega)
    dsimp only at e
    rw[c1 (dlt hk),E8 hk,qV,List.getElem_map,e,qV,Q7c (by simp only[qY,qW,jF];omega)]
    simp
  dsimp only[Lp.thn]
  refine Z9v (fs.map (·.1)) (fs.map (·.2)) (by simp) (by simp;omega) _ (by simp only[jV,qW];omega) (fun k hk h2 v hv=>?_) (fun v=>by dsimp only;rw[c0 (dge _)]) ?_
  . have hk':k<fs.length:=by simpa using hk
    rw[List.getElem_map]at hv⊢
    dsimp only
    rw[c1 (dlt hk),E8 hk,qV,List.getElem_map];have hm:=jT hk';have hws:=smq (w:=wF) (f:=fun q:L6×Tts=>q.1) hm;have hq:=hf _ hm
    generalize fs[k]=q at hv hq hws⊢
    obtain⟨x,xs⟩:=q;cases hq with
    |@mk p t tt s ps qs ht hs hp hb=>
     have hws:1+t.Stars.toNat+sm wV (ps.map (·.1))+sm wS (qs.map (·.1))<=sm wF (fs.map (·.1)):=hws
     dsimp only at hv⊢
     have lp:=sml (f:=fun q:J2×Tts=>q.1) Z4q ps;have hv:v.l.length+(tt++s::[40]::(sep (ps.map (·.2))++[41]::Z2i (qs.map (·.2)))).length<=100000000:=hv
     simp only[qY,qW,Z0l]at hv
     have e:=X3z ht v (by omega)
     dsimp only at e
     rw[e,qV,Q7c (by simp only[qY,qW,jF];omega),qV];refine Z9v (ps.map (·.1)) (pre (ps.map (·.2))) (by rw[X5n];simp) (by simp;omega) _ (by unfold sep at hv;simp only[qY,qW,jF];omega) (fun k hk h2 u hu=>?_) (fun v=>by dsimp only;rw[c0 (dge _)]) ?_
     . have hk':k<ps.length:=by simpa using hk
       rw[X5o h2 (by simpa using hk')]at hu⊢;have hm:=jT hk';have hwv:=smq (w:=wV) (f:=fun q:J2×Tts=>q.1) hm;have hvi:=wV_in (ps[k]'hk').1
       dsimp only
       rw[c1 (dlt hk),E8 hk,qV]
       simp only[jn,List.getElem_map]at hu⊢
       have e:=Z7j (hp _ hm).1 (by omega) (by omega)
       by_cases h0:k=0
       . subst h0;rw[if_pos rfl]at hu⊢;have e1:=e u hu
         dsimp only at e1
         rw[c0 (df (by omega)),e1]
         rfl
       . rw[if_neg h0]at hu⊢
         simp only[qY]at hu
         have e1:=e ⟨u.l++[[44]]⟩ (by simp;omega)
         dsimp only at e1
         rw[c1 (dt (by omega)),Q7c (by simp;omega),qV,e1]
         simp
     . dsimp only[Lp.thn]
       rw[Q7c (by unfold sep at hv;simp only[qY,qW,jF];omega),qV];have e2:=X7k (qs:=qs) (by omega) hb ⟨v.l++tt++[s,[40]]++(pre (ps.map (·.2))).flatten++[[41]]⟩ (by unfold sep at hv;simp only[qY,qW,jF,Z0l];omega)
       dsimp only at e2
       rw[e2]
       simp[sep]
  dsimp only[Lp.thn]
  rw[jV,qS];unfold strings_Join;rw[if_pos ⟨by simp only[qW];omega,hj2⟩]
  rfl
theorem X4w:Q8y=some true:=by kernel_rfl
theorem Y5j(s:Aa):Q4l s=some true:=by
 unfold Q4l;rw[X4w]
 by_cases h:(4000:Int)<s.length
 . rw[c1 (dt h)];rfl
 rw[c0 (df h)];obtain⟨p,a,e,hr,ho⟩:=X3r s (by omega);refine bnd hr ?_
 dsimp only
 by_cases he:e=0
 . subst he;rw[c0 (show((0:Int)!=0)=false from rfl)];obtain⟨o1,o2⟩:=ho rfl;obtain⟨_,_,_,_,hp,_⟩:=read_z (by omega) hr;obtain⟨ts,hts⟩:=hp.all;refine bnd (print_w hts (by omega)) ?_
   by_cases hl:(Lib.join ts [32]).length<=65536
   . obtain⟨q,b,f,hr2,_⟩:=X3r _ hl;refine bnd hr2 ?_
     dsimp only
     by_cases hf:f=0
     . subst hf;rw[c0 (show((0:Int)!=0)=false from rfl)];obtain⟨u,c,g,hc,_,hu⟩:=X7t o1 (by omega);refine bnd hc ?_;have hv:=Check_v (read_r hts hl hr2);rw[hc]at hv;cases hq:Q2v q with
       |none=>rw[hq]at hv;exact hv.elim
       |some z=>
        obtain⟨u',c',g'⟩:=z;rw[hq]at hv;obtain⟨v1,v2⟩:=hv
        dsimp only at v1 v2
        subst v1;subst v2
        dsimp only
        rw[qV,qV,Bool.true_and,beq_self_eq_true,Ak,X7s hu]
        rfl
     . rw[c1 (bne_iff_ne.2 hf)];rfl
   . have e2:Q5i (Lib.join ts [32])=some (⟨[],[],[]⟩,⟨1,1⟩,2):=by
      unfold Q5i Z7z;rw[c1 (dt (by omega))]
      rfl
     refine bnd e2 ?_
     rfl
 . rw[c1 (bne_iff_ne.2 he)];rfl
theorem Y5i(s:Aa){A:Prop}(_:A):Q4l s=some true:=Y5j s
end Go.Proofs.YtjohcgibbiebkaaGreatDoor
