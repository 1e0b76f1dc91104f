/- Plain laws: no program is in sight here. -/
import Derived.Test.YtfffghclkmbopaaGreatKL10A
import Derived.KernelRfl
set_option linter.unusedVariables false
namespace Go.Proofs.YtfffghclkmbopaaGreat
def QV (c:Q0) (n:Nat) (y:Z7×Q0):Prop:=Tg c y.2∧Dp n y.1.term
def QT (c:Q0) (n:Nat) (y:Y4×Q0):Prop:=Tg c y.2∧Dp n y.1
theorem X1x {x k:Z8} (h:k ∈ x.Kids):wE k≤sm wE x.Kids:=by
  obtain⟨s,t,e⟩:=List.append_of_mem h;rw [e,Q1t,Q7k];omega
theorem Z2j {x k:Z8} (h:k ∈ x.Kids):wE k+1≤wE x:=by
  have:=X1x h;have h2:=Y6d x;omega
structure OkX (x:Z8):Prop where
  e:OkE x
  w:wE x≤10000
theorem OkX.kids {x:Z8} (h:OkX x) : ∀ k ∈ x.Kids,OkX k:=fun k hk=>⟨h.e.kids k hk,by have:=Z2j hk; have:=h.w; omega⟩
theorem OkX.ar {x:Z8} (h:OkX x):Z2m x.Kind≤x.Kids.length:=h.e.ar
theorem OkX.ex {x:Z8} (h:OkX x):Ex x.Kind x.Pos x.Op x.Name x.Kids.length:=h.e.ex
theorem OkX.ty {x:Z8} (h:OkX x):OkT x.Type_:=h.e.ty
theorem OkX.pn {x:Z8} (h:OkX x):Pn x.Pos:=h.e.pn
structure S3 (n:Nat):Prop where
  asked : ∀ c x,Ck c→OkX x→20 * wE x+5≤n→Og Ep ((R4 n).X9 c x) (QT c (6 * wE x))
  number : ∀ c x,Ck c→OkX x→20 * wE x+5≤n→Og Ep ((R4 n).X4 c x) (QT c (6 * wE x))
  unary : ∀ c x,Ck c→OkX x→1≤x.Kids.length→20 * wE x+2≤n→Og Ep ((R4 n).J4 c x) (QV c (6 * wE x - 2))
  both : ∀ c k x,Ck c→OkX x→2≤x.Kids.length→20 * wE x+1≤n→Og Ep ((R4 n).K4 c k x) (QV c (6 * wE x - 2))
  binary : ∀ c x,Ck c→OkX x→2≤x.Kids.length→20 * wE x+2≤n→Og Ep ((R4 n).J0 c x) (QV c (6 * wE x - 2))
  lying : ∀ c x,Ck c→OkX x→20 * wE x+4≤n→Og Ep ((R4 n).K7 c x) (QV c (6 * wE x - 2))
  assign : ∀ c x,Ck c→OkX x→2≤x.Kids.length→x.Op ≠ []→20 * wE x+2≤n→Og Ep ((R4 n).J1 c x) (QV c (6 * wE x - 2))
  cond : ∀ c x,Ck c→OkX x→3≤x.Kids.length→20 * wE x+2≤n→Og Ep ((R4 n).G3 c x) (QV c (6 * wE x - 2))
  call : ∀ c x,Ck c→OkX x→x.Kind=7→20 * wE x+2≤n→Og Ep ((R4 n).G4 c x) (QV c (6 * wE x - 2))
  member : ∀ c x,Ck c→OkX x→1≤x.Kids.length→20 * wE x+2≤n→Og Ep ((R4 n).K9 c x) (QV c (6 * wE x - 2))
  step : ∀ c x,Ck c→OkX x→1≤x.Kids.length→20 * wE x+2≤n→Og Ep ((R4 n).G0 c x) (QV c (6 * wE x - 2))
  expr : ∀ c x,Ck c→OkX x→20 * wE x+3≤n→Og Ep ((R4 n).V2 c x) (QV c (6 * wE x - 2))
  value : ∀ c x,Ck c→OkX x→20 * wE x+4≤n→Og Ep ((R4 n).Z4 c x) (QV c (6 * wE x))
theorem asked_s3 {n:Nat} (h:S3 n) : ∀ c x,Ck c→OkX x→20 * wE x+5≤n+1→Og Ep ((R4 (n+1)).X9 c x) (QT c (6 * wE x)):=by
  intro c x hc hx hn;show Og Ep (M9 (R4 n) c x) _;unfold M9;refine Og.bind (h.value c x hc hx (by omega)) (fun y a => ?_) (fun e he=>Og.err he);cases y.1.n != 1 with
  | false=>exact Og.ok a
  | true =>
    obtain⟨b,hb⟩:=S8 a.1.tab y.1.n;refine Og.step hb ?_;cases b with
    | true=>exact Og.ok a
    | false=>rw [c1 (b := !false) rfl]; exact Z0t hx.pn (by decide)
theorem X2b {n:Nat} (h:S3 n) : ∀ c x,Ck c→OkX x→20 * wE x+5≤n+1→Og Ep ((R4 (n+1)).X4 c x) (QT c (6 * wE x)):=by
  intro c x hc hx hn;show Og Ep (N0 (R4 n) c x) _;unfold N0;refine Og.bind (h.value c x hc hx (by omega)) (fun y a => ?_) (fun e he=>Og.err he);cases y.1.n != 1 with
  | false=>exact Og.ok a
  | true=>rw [c1 (b:=true) rfl]; exact Z0t hx.pn (by decide)
theorem both_s3 {n:Nat} (h:S3 n) : ∀ c k x,Ck c→OkX x→2≤x.Kids.length→20 * wE x+1≤n+1→Og Ep ((R4 (n+1)).K4 c k x) (QV c (6 * wE x - 2)):=by
  intro c k x hc hx h2 hn;show Og Ep (H8 (R4 n) c k x) _;unfold H8;obtain⟨a,ha,ham⟩:=Q7z (k:=0) (show 0 < x.Kids.length by omega);obtain⟨b,hb,hbm⟩:=Q7z (k:=1) (show 1 < x.Kids.length by omega);have wa:=Z2j ham;have wb:=Z2j hbm;refine Og.step ha ?_;refine Og.bind (h.asked c a hc (hx.kids a ham) (by omega)) (fun y1 a1 => ?_) (fun e he=>Og.err he);refine Og.step hb ?_;refine Og.bind (h.asked y1.2 b (hc.tg a1.1) (hx.kids b hbm) (by omega)) (fun y2 a2 => ?_) (fun e he=>Og.err he);exact Og.ok ⟨a1.1.trans a2.1,Dp.k2 (n:=6 * wE x - 6) rfl (a1.2.mono (by omega)) (a2.2.mono (by omega)) (by omega)⟩
theorem lying_s3 {n:Nat} (h:S3 n) : ∀ c x,Ck c→OkX x→20 * wE x+4≤n+1→Og Ep ((R4 (n+1)).K7 c x) (QV c (6 * wE x - 2)):=by
  intro c x hc hx hn;show Og Ep (M7 (R4 n) c x) _;unfold M7;refine Og.bind (h.expr c x hc hx (by omega)) (fun y a => ?_) (fun e he=>Og.err he);cases y.1.lies with
  | false=>rw [c1 (b := !false) rfl]; exact Z0t hx.pn (by decide)
  | true =>
    rw [c0 (b := !true) rfl];obtain⟨b,hb⟩:=Z1g y.2.t y.1.n;refine Og.step hb ?_;cases b with
    | true=>exact Og.ok a
    | false=>rw [c1 (b := !false) rfl]; exact Z0t hx.pn (by decide)
theorem value_s3 {n:Nat} (h:S3 n) : ∀ c x,Ck c→OkX x→20 * wE x+4≤n+1→Og Ep ((R4 (n+1)).Z4 c x) (QV c (6 * wE x)):=by
  intro c x hc hx hn;show Og Ep (M4 (R4 n) c x) _;unfold M4;have:=Q2e x;refine Og.bind (h.expr c x hc hx (by omega)) (fun y a => ?_) (fun e he=>Og.err he);refine Og.bind (X0f a.1.tab hx.pn a.2) (fun z b => ?_) (fun e he=>Og.err he);refine Og.ok ⟨?_,b.2.mono (by omega)⟩
  dsimp only
  rw [b.1.back];exact a.1.trans b.1
theorem unary_s3 {n:Nat} (h:S3 n) : ∀ c x,Ck c→OkX x→1≤x.Kids.length→20 * wE x+2≤n+1→Og Ep ((R4 (n+1)).J4 c x) (QV c (6 * wE x - 2)):=by
  intro c x hc hx h1 hn;show Og Ep (M5 (R4 n) c x) _;unfold M5
  dsimp only [jn]
  obtain⟨a,ha,ham⟩:=Q7z (k:=0) (show 0 < x.Kids.length by omega);have wa:=Z2j ham;have oa:=hx.kids a ham;refine Og.step ha ?_
  have num : ∀ k:Int,Og Ep (((R4 n).X4 c a).bind fun y9=>exC y9 (fun y9=>some (Except.ok ((⟨1,(⟨5,k,0,0,false,0,false,false,([y9.1]:List Y4)⟩:Y4),false⟩:Z7),y9.2))) (fun e7=>some (Except.error (e7.1,e7.2)))) (QV c (6 * wE x - 2)):=fun k =>
    Og.bind (h.number c a hc oa (by omega)) (fun y a1=>Og.ok ⟨a1.1,Dp.k1 (n:=6 * wE x - 6) rfl (a1.2.mono (by omega)) (by omega)⟩) (fun e he=>Og.err he)
  by_cases o1:x.Op = [38]
  · rw [c1 (dt o1)];refine Og.bind (h.expr c a hc oa (by omega)) (fun y1 a1 => ?_) (fun e he=>Og.err he);refine Og.step (Z4i a1.1.tab _) ?_;cases((!y1.1.lies) || ((tyT y1.2.t y1.1.n).1.Kind == 4)) with
    | true=>rw [c1 (b:=true) rfl]; exact Z0t oa.pn (by decide)
    | false =>
      rw [c0 (b:=false) rfl];refine Og.bind (Y7m a1.1.tab hx.pn _) (fun y4 a4 => ?_) (fun e he=>Og.err he);refine Og.ok ⟨?_,a1.2.mono (by omega)⟩
      dsimp only
      rw [a4.back];exact a1.1.trans a4
  rw [c0 (df o1)]
  by_cases o2:x.Op = [42]
  · rw [c1 (dt o2)];refine Og.bind (h.value c a hc oa (by omega)) (fun y1 a1 => ?_) (fun e he=>Og.err he);obtain⟨e,b,hb⟩:=Z5q a1.1.tab y1.1.n;refine Og.step hb ?_;cases b with
    | false=>rw [c1 (b := !false) rfl]; exact Z0t oa.pn (by decide)
    | true=>exact Og.ok ⟨a1.1,a1.2.mono (by omega)⟩
  rw [c0 (df o2)]
  by_cases o3:x.Op = [33]
  · rw [c1 (dt o3)];exact Og.bind (h.asked c a hc oa (by omega)) (fun y a1=>Og.ok ⟨a1.1,Dp.k1 (n:=6 * wE x - 6) rfl (a1.2.mono (by omega)) (by omega)⟩) (fun e he=>Og.err he)
  rw [c0 (df o3)]
  by_cases o4:x.Op = [45]
  · rw [c1 (dt o4)]; exact num 17
  · rw [c0 (df o4)]; exact num 18
theorem Q0g {p:Pos} {k:Int} {c:Q0} {B:Type} {r:B→Prop} (hp:Pn p) (hk:k ≠ 0):Og Ep ((Y6 p k).bind fun y=>exC y (fun _=>(none:Option (Except (Z3×Q0) B))) (fun e=>some (Except.error (e,c)))) r:=Z0t hp hk
theorem X2v {n:Nat} (h:S3 n) : ∀ c x,Ck c→OkX x→2≤x.Kids.length→20 * wE x+2≤n+1→Og Ep ((R4 (n+1)).J0 c x) (QV c (6 * wE x - 2)):=by
  intro c x hc hx h2 hn;show Og Ep (N4 (R4 n) c x) _;unfold N4
  dsimp only [jn]
  by_cases o1:x.Op = [38,38]
  · rw [c1 (dt o1)];exact Og.bind (h.both c 7 x hc hx h2 (by omega)) (fun y a=>Og.ok a) (fun e he=>Og.err he)
  rw [c0 (df o1)]
  by_cases o2:x.Op = [124,124]
  · rw [c1 (dt o2)];exact Og.bind (h.both c 8 x hc hx h2 (by omega)) (fun y a=>Og.ok a) (fun e he=>Og.err he)
  rw [c0 (df o2)];obtain⟨a,ha,ham⟩:=Q7z (k:=0) (show 0 < x.Kids.length by omega);obtain⟨b,hb,hbm⟩:=Q7z (k:=1) (show 1 < x.Kids.length by omega);have wa:=Z2j ham;have wb:=Z2j hbm;have pa:=Q2e a;have oa:=hx.kids a ham;have ob:=hx.kids b hbm;refine Og.step ha ?_;refine Og.step hb ?_;refine Og.bind (h.value c a hc oa (by omega)) (fun y3 a3 => ?_) (fun e he=>Og.err he);refine Og.bind (h.value y3.2 b (hc.tg a3.1) ob (by omega)) (fun y4 a4 => ?_) (fun e he=>Og.err he);have tg:=a3.1.trans a4.1;have da:=a3.2.mono (show 6 * wE a≤6 * wE x - 6 by omega);have db:=a4.2.mono (show 6 * wE b≤6 * wE x - 6 by omega);obtain⟨f,hf⟩:=Y5b x.Op;refine Og.step hf ?_;cases((y3.1.n == 1)&&(y4.1.n == 1)) with
  | true=>exact Og.ok ⟨tg,Dp.k2 rfl da db (by omega)⟩
  | false =>
  rw [c0 (b:=false) rfl];cases((f == 11) || (f == 12)) with
  | true=>exact Og.bind (equal_g a4.1.tab hx.e h2 (n:=6 * wE x - 6) (by omega) da db) (fun y q=>Og.ok ⟨tg,q.mono (by omega)⟩) (fun e he=>Og.err he)
  | false =>
  rw [c0 (b:=false) rfl];cases((f == 1)&&(y3.1.n == 1)) with
  | true=>exact Og.bind (X1i a4.1.tab ob.pn db da f) (fun y q=>Og.ok ⟨tg,q.mono (by omega)⟩) (fun e he=>Og.err he)
  | false =>
  rw [c0 (b:=false) rfl];cases(((f == 1) || (f == 2))&&(y4.1.n == 1)) with
  | true=>exact Og.bind (X1i a4.1.tab oa.pn da db f) (fun y q=>Og.ok ⟨tg,q.mono (by omega)⟩) (fun e he=>Og.err he)
  | false =>
  rw [c0 (b:=false) rfl];cases(y3.1.n != 1) with
  | false=>rw [c0 (b:=false) rfl]; exact Q0g ob.pn (by decide)
  | true =>
    rw [c1 (b:=true) rfl];obtain⟨p,hp⟩:=S8 a4.1.tab y3.1.n;refine Og.step hp ?_;cases((!p) || ((f != 1)&&(f != 2))) with
    | true=>rw [c1 (b:=true) rfl]; exact Q0g oa.pn (by decide)
    | false=>rw [c0 (b:=false) rfl]; exact Q0g ob.pn (by decide)
theorem X2w {n:Nat} (h:S3 n) : ∀ c x,Ck c→OkX x→2≤x.Kids.length→x.Op ≠ []→20 * wE x+2≤n+1→Og Ep ((R4 (n+1)).J1 c x) (QV c (6 * wE x - 2)):=by
  intro c x hc hx h2 ho hn;show Og Ep (N5 (R4 n) c x) _;unfold N5
  dsimp only [jn]
  obtain⟨a,ha,ham⟩:=Q7z (k:=0) (show 0 < x.Kids.length by omega);obtain⟨b,hb,hbm⟩:=Q7z (k:=1) (show 1 < x.Kids.length by omega);have wa:=Z2j ham;have wb:=Z2j hbm;have pa:=Q2e a;have oa:=hx.kids a ham;have ob:=hx.kids b hbm;refine Og.step ha ?_;refine Og.step hb ?_;refine Og.bind (h.lying c a hc oa (by omega)) (fun y1 a1 => ?_) (fun e he=>Og.err he);have da:=a1.2.mono (show 6 * wE a - 2≤6 * wE x - 6 by omega);refine Og.step (Q4r _ _) ?_;obtain⟨p,hp⟩:=S8 a1.1.tab y1.1.n;refine Og.step hp ?_
  by_cases o1:x.Op = [61]
  · rw [c1 (dt o1)];refine Og.bind (h.value y1.2 b (hc.tg a1.1) ob (by omega)) (fun y4 a4 => ?_) (fun e he=>Og.err he);have db:=a4.2.mono (show 6 * wE b≤6 * wE x - 6 by omega);refine Og.bind (Z5g a4.1.tab ob.pn (n:=6 * wE x - 6) (by omega) db y1.1.n) (fun y5 a5 => ?_) (fun e he=>Og.err he);obtain⟨k,hk⟩:=Z6e y4.2 y1.1.n;exact Og.step hk (Og.ok ⟨a1.1.trans a4.1,Dp.k2 rfl da a5 (by omega)⟩)
  rw [c0 (df o1)];have ol:1≤x.Op.length:=List.length_pos_iff.2 ho;have oq:x.Op.length≤70000:=match hx.e with | .mk _ _ o _ _ _ _=>o;rw [w64 (by omega),show ((x.Op.length:Int) - 1)=((x.Op.length - 1:Nat):Int) by omega];refine Og.step (Z5h (b:=x.Op) (n:=x.Op.length - 1) (by omega)) ?_;obtain⟨f,hf⟩:=Y5b (x.Op.take (x.Op.length - 1));refine Og.step hf ?_
  have rest : ∀ t:Y4,U32 t.Num→Og Ep (((R4 n).X4 y1.2 b).bind fun y11=>exC y11 (fun y11=>(F0 y11.2 y1.1.n).bind fun y12=>some (Except.ok ((⟨y12,{t with Kids:=([y1.1.term,y11.1]:List Y4)},false⟩:Z7),y11.2))) (fun e4=>some (Except.error (e4.1,e4.2)))) (QV c (6 * wE x - 2)):=fun t nu=>by
    refine Og.bind (h.number y1.2 b (hc.tg a1.1) ob (by omega)) (fun y4 a4 => ?_) (fun e he=>Og.err he);obtain⟨k,hk⟩:=Z6e y4.2 y1.1.n;exact Og.step hk (Og.ok ⟨a1.1.trans a4.1,Dp.k2 rfl da (a4.2.mono (show 6 * wE b≤6 * wE x - 6 by omega)) (by omega) nu⟩)
  cases p with
  | false=>exact rest (⟨16,f,0,0,false,szT y1.2.t y1.1.n,false,false,[]⟩:Y4) Z6c
  | true =>
    rw [c1 (b:=true) rfl];obtain⟨e,q,hq⟩:=Z5q a1.1.tab y1.1.n;refine Og.step hq ?_;cases((!q) || ((f != 1)&&(f != 2))) with
    | true=>rw [c1 (b:=true) rfl]; exact Q0g oa.pn (by decide)
    | false =>
      rw [c0 (b:=false) rfl];refine Og.step (Q4r _ _) ?_;exact rest (⟨16,f,IntKind.wrap .u32 (szT y1.2.t e),0,false,szT y1.2.t y1.1.n,false,true,[]⟩:Y4) (Y0r _)
theorem step_s3 {n:Nat} (h:S3 n) : ∀ c x,Ck c→OkX x→1≤x.Kids.length→20 * wE x+2≤n+1→Og Ep ((R4 (n+1)).G0 c x) (QV c (6 * wE x - 2)):=by
  intro c x hc hx h1 hn;show Og Ep (A8 (R4 n) c x) _;unfold A8
  dsimp only [jn]
  obtain⟨a,ha,ham⟩:=Q7z (k:=0) (show 0 < x.Kids.length by omega);have wa:=Z2j ham;have pa:=Q2e a;have oa:=hx.kids a ham;refine Og.step ha ?_;refine Og.bind (h.lying c a hc oa (by omega)) (fun y1 a1 => ?_) (fun e he=>Og.err he);have da:=a1.2.mono (show 6 * wE a - 2≤6 * wE x - 6 by omega);obtain⟨p,hp⟩:=S8 a1.1.tab y1.1.n;obtain⟨k,hk⟩:=Z6e y1.2 y1.1.n
  have rest : ∀ m:Int,Og Ep ((U1 y1.2.t y1.1.n).bind fun y6=>(Y7 y1.2 y1.1.n).bind fun y7=>(F0 y1.2 y1.1.n).bind fun y8=>some (Except.ok ((⟨y8,(⟨15,0,IntKind.wrap .u32 m,0,false,y6,x.Kind == 11,y7,([y1.1.term]:List Y4)⟩:Y4),false⟩:Z7),y1.2))) (QV c (6 * wE x - 2)):=fun m=>by
    refine Og.step (Q4r _ _) ?_;refine Og.step hp ?_;exact Og.step hk (Og.ok ⟨a1.1,Dp.k1 rfl da (by omega)⟩)
  have both : ∀ m:Int,Og Ep (bif decide (x.Op=([45,45]:List UInt8)) then ((U1 y1.2.t y1.1.n).bind fun y6=>(Y7 y1.2 y1.1.n).bind fun y7=>(F0 y1.2 y1.1.n).bind fun y8=>some (Except.ok ((⟨y8,(⟨15,0,IntKind.wrap .u32 (IntKind.wrap .i64 (0 - m)),0,false,y6,x.Kind == 11,y7,([y1.1.term]:List Y4)⟩:Y4),false⟩:Z7),y1.2))) else ((U1 y1.2.t y1.1.n).bind fun y6=>(Y7 y1.2 y1.1.n).bind fun y7=>(F0 y1.2 y1.1.n).bind fun y8=>some (Except.ok ((⟨y8,(⟨15,0,IntKind.wrap .u32 m,0,false,y6,x.Kind == 11,y7,([y1.1.term]:List Y4)⟩:Y4),false⟩:Z7),y1.2)))) (QV c (6 * wE x - 2)):=fun m=>by
    cases decide (x.Op=([45,45]:List UInt8)) with
    | true=>exact rest _
    | false=>exact rest _
  refine Og.step hp ?_;cases p with
  | false=>exact both 1
  | true =>
    rw [c1 (b:=true) rfl];obtain⟨e,q,hq⟩:=Z5q a1.1.tab y1.1.n;refine Og.step hq ?_;cases q with
    | false=>rw [c1 (b := !false) rfl]; exact Q0g oa.pn (by decide)
    | true =>
      rw [c0 (b := !true) rfl];refine Og.step (Q4r _ _) ?_;exact both _
theorem Dp.kk {n m:Nat} {t:Y4} (h : ∀ k ∈ t.Kids,Dp n k) (hm:n+1≤m) (nu:U32 t.Num:=by first | exact Z6c | exact Y0r _) (kl:t.Kids.length≤100000:=by simp):Dp m t:=Dp.mono (.mk h nu kl) hm
theorem d3 {n:Nat} {a b c:Y4} (ha:Dp n a) (hb:Dp n b) (hc:Dp n c) : ∀ k ∈ ([a,b,c]:List Y4),Dp n k:=by
  intro k hk
  simp only [List.mem_cons,List.not_mem_nil,or_false] at hk
  rcases hk with rfl | rfl | rfl <;> assumption
theorem cond_s3 {n:Nat} (h:S3 n) : ∀ c x,Ck c→OkX x→3≤x.Kids.length→20 * wE x+2≤n+1→Og Ep ((R4 (n+1)).G3 c x) (QV c (6 * wE x - 2)):=by
  intro c x hc hx h3 hn;show Og Ep (H5 (R4 n) c x) _;unfold H5
  dsimp only [jn]
  obtain⟨a,ha,ham⟩:=Q7z (k:=1) (show 1 < x.Kids.length by omega);obtain⟨b,hb,hbm⟩:=Q7z (k:=2) (show 2 < x.Kids.length by omega);obtain⟨q,hq,hqm⟩:=Q7z (k:=0) (show 0 < x.Kids.length by omega);have wa:=Z2j ham;have wb:=Z2j hbm;have wq:=Z2j hqm;have oa:=hx.kids a ham;have ob:=hx.kids b hbm;have oq:=hx.kids q hqm;have pa:=Q2e a;refine Og.step ha ?_;refine Og.step hb ?_;refine Og.step hq ?_;refine Og.bind (h.asked c q hc oq (by omega)) (fun y1 a1 => ?_) (fun e he=>Og.err he);refine Og.bind (h.value y1.2 a (hc.tg a1.1) oa (by omega)) (fun y2 a2 => ?_) (fun e he=>Og.err he);refine Og.bind (h.value y2.2 b ((hc.tg a1.1).tg a2.1) ob (by omega)) (fun y3 a3 => ?_) (fun e he=>Og.err he);have tg:=(a1.1.trans a2.1).trans a3.1;have tb:=a3.1.tab;have dq:=a1.2.mono (show 6 * wE q≤6 * wE x - 6 by omega);have da:=a2.2.mono (show 6 * wE a≤6 * wE x - 6 by omega);have db:=a3.2.mono (show 6 * wE b≤6 * wE x - 6 by omega);obtain⟨v3,⟨c1',c2',c3',c4',c5',c6',c7'⟩⟩:=y3
  dsimp only at tg tb db ⊢
  obtain⟨p,hp⟩:=S8 (c:=⟨c1',c2',c3',c4',c5',c6',c7'⟩) tb y2.1.n;obtain⟨r,hr⟩:=S8 (c:=⟨c1',c2',c3',c4',c5',c6',c7'⟩) tb v3.n;obtain⟨za,hza⟩:=Z8t a;obtain⟨zb,hzb⟩:=Z8t b;have hno:Q1h=some (⟨1,0,0,0,false,0,false,true,[]⟩:Y4):=rfl;have d0:Dp (6 * wE x - 6) (⟨1,0,0,0,false,0,false,true,[]⟩:Y4):=Dp.k0 rfl (by omega);have hwn:=Z5g (c:=⟨c1',c2',c3',c4',c5',c6',c7'⟩) tb ob.pn (n:=6 * wE x - 6) (by omega) db y2.1.n
  simp only [hp,hr,hza,hzb,hno,Option.bind_some]
  cases p <;> cases r <;> cases za <;> cases zb <;> cases (y2.1.n == 1) <;> cases (v3.n == 1) <;> cases (y2.1.n == v3.n) <;> cases (y2.1.n != 1) <;> simp only [cond_true,cond_false,Bool.not_true,Bool.not_false,Bool.and_true,Bool.and_false] <;> first
    | exact Q0g oa.pn (by decide)
    | exact Q0g ob.pn (by decide)
    | exact Og.ok ⟨tg,Dp.kk (d3 dq da db) (by omega)⟩
    | exact Og.ok ⟨tg,Dp.kk (d3 dq d0 db) (by omega)⟩
    | exact Og.bind hwn (fun y6 a6=>Og.step rfl (Og.step rfl (Og.ok ⟨tg,Dp.kk (d3 dq da a6) (by omega)⟩))) (fun e he=>Og.err he)
    | exact Og.step rfl (Og.step rfl (Og.ok ⟨tg,Dp.kk (d3 dq d0 db) (by omega)⟩))
theorem X2d {n:Nat} (h:S3 n) : ∀ c x,Ck c→OkX x→1≤x.Kids.length→20 * wE x+2≤n+1→Og Ep ((R4 (n+1)).K9 c x) (QV c (6 * wE x - 2)):=by
  intro c x hc hx h1 hn;show Og Ep (N1 (R4 n) c x) _;unfold N1
  dsimp only [jn]
  obtain⟨a,ha,ham⟩:=Q7z (k:=0) (show 0 < x.Kids.length by omega);have wa:=Z2j ham;have pa:=Q2e a;have oa:=hx.kids a ham;refine Og.step ha ?_;refine Og.bind (h.expr c a hc oa (by omega)) (fun y1 a1 => ?_) (fun e he=>Og.err he);have da:=a1.2.mono (show 6 * wE a - 2≤6 * wE x - 6 by omega)
  have rest : ∀(v:Z7) (c' : Q0),Tg c c' → Dp (6 * wE x - 5) v.term→Og Ep ((P6 c'.t v.n).bind fun y5=>bif ((!v.lies) || (y5.1.Kind != 5)) then ((Y6 a.Pos 5).bind fun y6=>exC y6 (fun y6=>none) (fun e3=>some (Except.error (e3,{c' with t:=c'.t})))) else ((Q3c c'.t v.n x.Name).bind fun y7=>(I2 x.Pos y7.2).bind fun y8=>exC y8 (fun y8=>(U1 c'.t y7.1.Type_).bind fun y9=>some (Except.ok ((⟨y7.1.Type_,(⟨13,0,IntKind.wrap .u32 y7.1.At,0,false,y9,false,true,([v.term]:List Y4)⟩:Y4),true⟩:Z7),{c' with t:=c'.t}))) (fun e4=>some (Except.error (e4,{c' with t:=c'.t}))))) (QV c (6 * wE x - 2)):=by
    intro v c' tg dv;refine Og.step (Z4i tg.tab _) ?_;cases((!v.lies) || ((tyT c'.t v.n).1.Kind != 5)) with
    | true=>rw [c1 (b:=true) rfl]; exact Q0g oa.pn (by decide)
    | false =>
      rw [c0 (b:=false) rfl];obtain⟨f,e,hf⟩:=X2k tg.tab v.n x.Name;refine Og.step hf ?_;refine X0p hx.pn fun _ => ?_;refine Og.step (Q4r _ _) ?_;exact Og.ok ⟨tg,Dp.k1 rfl dv (by omega)⟩
  by_cases o1:x.Op = [45,62]
  · rw [c1 (dt o1)];refine Og.bind (X0f a1.1.tab oa.pn da) (fun y2 a2 => ?_) (fun e he=>Og.err he);have tg:=a1.1.trans a2.1;have hb:=a2.1.back;obtain⟨e,q,hq⟩:=Z5q a2.1.tab y2.1.n;rw [hb];refine Og.step hq ?_;cases q with
    | false=>rw [c1 (b := !false) rfl]; exact Q0g oa.pn (by decide)
    | true =>
      rw [c0 (b := !true) rfl];exact rest (⟨e,y2.1.term,true⟩:Z7) y2.2 tg (a2.2.mono (by omega))
  · rw [c0 (df o1)];exact rest y1.1 y1.2 a1.1 (da.mono (by omega))
theorem call_s3 {n:Nat} (h:S3 n) : ∀ c x,Ck c→OkX x→x.Kind=7→20 * wE x+2≤n+1→Og Ep ((R4 (n+1)).G4 c x) (QV c (6 * wE x - 2)):=by
  intro c x hc hx h7 hn;show Og Ep (H7 (R4 n) c x) _;unfold H7
  dsimp only [jn]
  have px:=Q2e x
  by_cases o1:x.Name = [105,110]
  · rw [c1 (dt o1)];exact Og.ok ⟨Tg.refl hc.tab,Dp.k0 rfl (by omega)⟩
  rw [c0 (df o1)]
  by_cases o2:x.Name = [111,117,116]
  · rw [c1 (dt o2)];have h1:=hx.ex.2.1 h7 o2;obtain⟨a,ha,ham⟩:=Q7z (k:=0) (show 0 < x.Kids.length by omega);have wa:=Z2j ham;refine Og.step ha ?_;exact Og.bind (h.number c a hc (hx.kids a ham) (by omega)) (fun y a1=>Og.ok ⟨a1.1,Dp.k1 (n:=6 * wE x - 6) rfl (a1.2.mono (by omega)) (by omega)⟩) (fun e he=>Og.err he)
  rw [c0 (df o2)];obtain⟨l,hl,hv⟩:=hc.co;have hg:D3 c.codes x.Name=Q5z l x.Name:=by unfold D3; rw [hl]; rfl
  have main : ∀ b:Bool,(b=true→(D3 c.codes x.Name).isSome=true)→Og Ep (bif !b then ((Y6 x.Pos 4).bind fun y3=>exC y3 (fun y3=>none) (fun e2=>some (Except.error (e2,c)))) else ((idx c.signs ((D3 c.codes x.Name).getD 0)).bind fun u6=>(Y7 c u6.ret).bind fun y4=>(loopM (fun(x12,x13,x14,x15)=>(bif decide (x12 < (List.length x.Kids:Int)) then ((idx x.Kids x12).bind fun u7=>((R4 n).Z4 ({x14 with t:=x15}) u7).bind fun y5=>exC y5 (fun y5=>bif decide (x12 < (List.length u6.params:Int)) then ((idx u6.params x12).bind fun u8=>(D8 y5.2 u7 y5.1 u8).bind fun y6=>exC y6 (fun y6=>(S0 (List.length x13.Kids+List.length ([y6]:List Y4))).bind fun _=>some (Lp.go (IntKind.wrap .i64 (x12+1),({x13 with Kids:=x13.Kids++([y6]:List Y4)} : Y4),({y5.2 with t:=y5.2.t} : Q0),y5.2.t))) (fun e3=>some (Lp.ret (Except.error (e3,y5.2))))) else (some (Lp.go (IntKind.wrap .i64 (x12+1),x13,({y5.2 with t:=y5.2.t} : Q0),y5.2.t)))) (fun e4=>some (Lp.ret (Except.error (e4.1,e4.2))))) else (some (Lp.brk (x12,x13,({x14 with t:=x15} : Q0),x15))):Option (Lp (Int×Y4×Q0×Z6) (Except (Z3×Q0) (Z7×Q0))))) NN ((0:Int),(⟨10,0,0,(D3 c.codes x.Name).getD 0,false,0,false,y4,[]⟩:Y4),c,c.t)).bind fun o=>o.thn (fun(x12,x13,x14,x15)=>bif (List.length x.Kids:Int) != (List.length u6.params:Int) then ((Y6 x.Pos 5).bind fun y7=>exC y7 (fun y7=>none) (fun e5=>some (Except.error (e5,{x14 with t:=x15})))) else ((F0 ({x14 with t:=x15}) u6.ret).bind fun y8=>some (Except.ok ((⟨y8,x13,false⟩:Z7),{x14 with t:=x15})))) (fun r=>some r))) (QV c (6 * wE x - 2)):=by
    intro b hb;cases b with
    | false=>rw [c1 (b := !false) rfl]; exact Q0g hx.pn (by decide)
    | true =>
    rw [c0 (b := !true) rfl];have hs:=hb rfl;rw [hg] at hs ⊢;obtain⟨v,hv2⟩:=Option.isSome_iff_exists.1 hs;rw [hv2];obtain⟨s,hs2,hsm⟩:=I6 (hv _ _ hv2);refine Og.step hs2 ?_;obtain⟨p,hp⟩:=S8 hc.tab s.ret;refine Og.step hp ?_;have hk:=W6 Q2e x.Kids;have hw:=Y6d x;have hxw:=hx.w;have hkl:x.Kids.length≤10000:=by omega
    refine Og.loop (fun s=>0≤s.1∧s.1≤x.Kids.length∧s.2.1.Kids.length≤s.1∧(∀ k ∈ s.2.1.Kids,Dp (6 * wE x - 5) k)∧U32 s.2.1.Num∧Tg c {s.2.2.1 with t:=s.2.2.2}) (fun s=>x.Kids.length - s.1.toNat) ⟨Int.le_refl 0,by dsimp only; omega,by simp,fun k hk=>(by cases hk),Z6c,Tg.refl hc.tab⟩ (by dsimp only; omega) ?_;rintro⟨x12,x13,x14,x15⟩ ⟨i1,i2,i3,i4,i6,i5⟩
    dsimp only at i1 i2 i3 i4 i5 i6 ⊢
    by_cases hlt:x12 < x.Kids.length
    · rw [c1 (dt hlt)];obtain⟨k,hk1,hkm⟩:=I6 ⟨i1,hlt⟩;have wk:=Z2j hkm;have pk:=Q2e k;have ok:=hx.kids k hkm;refine Rn.step hk1 ?_;refine Rn.bindG (h.value _ k (hc.tg i5) ok (by omega)) (fun y5 a5 => ?_) (fun e he=>Rn.ok (Og.err he));have tg:=i5.trans a5.1
      by_cases hp2:x12 < s.params.length
      · rw [c1 (dt hp2)];obtain⟨q,hq,_⟩:=I6 ⟨i1,hp2⟩;refine Rn.step hq ?_;refine Rn.bindG (Y9i a5.1.tab ok.pn (n:=6 * wE x - 6) (by omega) (a5.2.mono (by omega)) q) (fun y6 a6 => ?_) (fun e he=>Rn.ok (Og.err he));refine Rn.step (P4 (by simp; omega)) ?_;refine Rn.ok ⟨⟨by dsimp only; rw [w64 (by omega)]; omega,by dsimp only; rw [w64 (by omega)]; omega,by dsimp only; rw [w64 (by omega),List.length_append]; simp; omega,?_,i6,tg⟩,by dsimp only; rw [w64 (by omega)]; omega⟩;intro z hz
        rcases List.mem_append.1 hz with hz | hz
        · exact i4 z hz
        · rw [List.mem_singleton.1 hz];exact a6.mono (by omega)
      · rw [c0 (df hp2)];exact Rn.ok ⟨⟨by dsimp only; rw [w64 (by omega)]; omega,by dsimp only; rw [w64 (by omega)]; omega,by dsimp only; rw [w64 (by omega)]; omega,i4,i6,tg⟩,by dsimp only; rw [w64 (by omega)]; omega⟩
    · rw [c0 (df hlt)];refine Rn.ok ?_;show Og Ep (bif (List.length x.Kids:Int) != (List.length s.params:Int) then _ else _) _;cases((x.Kids.length:Int) != (s.params.length:Int)) with
      | true=>rw [c1 (b:=true) rfl]; exact Q0g hx.pn (by decide)
      | false =>
        rw [c0 (b:=false) rfl];obtain⟨k,hk⟩:=Z6e {x14 with t:=x15} s.ret;exact Og.step hk (Og.ok ⟨i5,Dp.kk i4 (by omega) i6 (by dsimp only; omega)⟩)
  have hf:=hc.fn;cases hfn:c.fun_ with
  | nil=>exact main _ fun e=>e
  | dead=>rw [hfn] at hf; exact hf.elim
  | some f =>
    rw [hfn] at hf;refine Og.step (x:=false) rfl ?_;rw [c1 (b := !false) rfl];refine Og.step (x:=f) rfl ?_;obtain⟨v,b,hy,_⟩:=find_g hf x.Name;refine Og.step hy ?_;cases b with
    | true=>exact main false fun e=>by cases e
    | false=>exact main _ fun e=>e
theorem expr_s3 {n:Nat} (h:S3 n) : ∀ c x,Ck c→OkX x→20 * wE x+3≤n+1→Og Ep ((R4 (n+1)).V2 c x) (QV c (6 * wE x - 2)):=by
  intro c x hc hx hn;show Og Ep (H4 (R4 n) c x) _;unfold H4
  dsimp only [jn]
  have px:=Q2e x;have har:=hx.ar
  by_cases k1:x.Kind=1
  · rw [c1 (by rw [k1]; rfl)]; exact Og.ok ⟨Tg.refl hc.tab,Dp.k0 rfl (by omega) hx.e.nu⟩
  rw [c0 (by simpa using k1)]
  by_cases k2:x.Kind=2
  · rw [c1 (by rw [k2]; rfl)];exact Og.bind (name_g hc hx.pn) (fun y a=>Og.ok ⟨by dsimp only; rw [a.1]; exact Tg.refl hc.tab,a.2.mono (by omega)⟩) (fun e he=>Og.err he)
  rw [c0 (by simpa using k2)]
  by_cases k3:x.Kind=3
  · rw [c1 (by rw [k3]; rfl)];rw [k3] at har;exact Og.bind (h.unary c x hc hx har (by omega)) (fun y a=>Og.ok a) (fun e he=>Og.err he)
  rw [c0 (by simpa using k3)]
  by_cases k4:x.Kind=4
  · rw [c1 (by rw [k4]; rfl)];rw [k4] at har;exact Og.bind (h.binary c x hc hx har (by omega)) (fun y a=>Og.ok a) (fun e he=>Og.err he)
  rw [c0 (by simpa using k4)]
  by_cases k5:x.Kind=5
  · rw [c1 (by rw [k5]; rfl)];rw [k5] at har;exact Og.bind (h.assign c x hc hx har (hx.ex.2.2 k5) (by omega)) (fun y a=>Og.ok a) (fun e he=>Og.err he)
  rw [c0 (by simpa using k5)]
  by_cases k6:x.Kind=6
  · rw [c1 (by rw [k6]; rfl)];rw [k6] at har;exact Og.bind (h.cond c x hc hx har (by omega)) (fun y a=>Og.ok a) (fun e he=>Og.err he)
  rw [c0 (by simpa using k6)]
  by_cases k7:x.Kind=7
  · rw [c1 (by rw [k7]; rfl)];exact Og.bind (h.call c x hc hx k7 (by omega)) (fun y a=>Og.ok a) (fun e he=>Og.err he)
  rw [c0 (by simpa using k7)]
  by_cases k8:x.Kind=8
  · rw [c1 (by rw [k8]; rfl)];rw [k8] at har;have har:2≤x.Kids.length:=har;obtain⟨a,ha,ham⟩:=Q7z (k:=0) (show 0 < x.Kids.length by omega);obtain⟨b,hb,hbm⟩:=Q7z (k:=1) (show 1 < x.Kids.length by omega);have wa:=Z2j ham;have wb:=Z2j hbm;have oa:=hx.kids a ham;have ob:=hx.kids b hbm;refine Og.step ha ?_;refine Og.bind (h.value c a hc oa (by omega)) (fun y7 a7 => ?_) (fun e he=>Og.err he);obtain⟨e,q,hq⟩:=Z5q a7.1.tab y7.1.n;refine Og.step hq ?_;cases q with
    | false=>rw [c1 (b := !false) rfl]; exact Og.step ha (Q0g oa.pn (by decide))
    | true =>
      rw [c0 (b := !true) rfl];refine Og.step hb ?_;refine Og.bind (h.number y7.2 b (hc.tg a7.1) ob (by omega)) (fun y10 a10 => ?_) (fun e he=>Og.err he);obtain⟨s,p,hi⟩:=Z9q a10.1.tab y7.1.term y10.1 e 1;exact Og.step hi (Og.ok ⟨a7.1.trans a10.1,Dp.k2 (n:=6 * wE x - 6) rfl (a7.2.mono (by omega)) (a10.2.mono (by omega)) (by omega)⟩)
  rw [c0 (by simpa using k8)]
  by_cases k9:x.Kind=9
  · rw [c1 (by rw [k9]; rfl)];rw [k9] at har;exact Og.bind (h.member c x hc hx har (by omega)) (fun y a=>Og.ok a) (fun e he=>Og.err he)
  rw [c0 (by simpa using k9)]
  have sz:Og Ep ((J5 c x.Pos x.Type_).bind fun y14=>exC y14 (fun y14=>(U1 y14.2.t y14.1).bind fun y15=>bif y15 == 0 then ((Y6 x.Pos 5).bind fun y16=>exC y16 (fun y16=>none) (fun e12=>some (Except.error (e12,{y14.2 with fun_:=c.fun_})))) else ((U1 y14.2.t y14.1).bind fun y17=>some (Except.ok ((⟨1,(⟨1,0,IntKind.wrap .u32 y17,0,false,0,false,false,[]⟩:Y4),false⟩:Z7),{y14.2 with fun_:=c.fun_})))) (fun e13=>some (Except.error (e13.1,{e13.2 with fun_:=c.fun_})))) (QV c (6 * wE x - 2)):=by
    refine Og.bind (Y1j hc.tab hx.pn hx.ty) (fun y a => ?_) (fun e he=>Og.err he);refine Og.step (Q4r _ _) ?_;cases(szT y.2.t y.1 == 0) with
    | true=>rw [c1 (b:=true) rfl]; exact Q0g hx.pn (by decide)
    | false =>
      rw [c0 (b:=false) rfl];refine Og.step (Q4r _ _) ?_;exact Og.ok ⟨by dsimp only; rw [a.back]; exact a,Dp.k0 rfl (by omega)⟩
  by_cases k10:x.Kind=10
  · rw [c1 (by rw [k10]; rfl),c1 (by rw [k10]; rfl)];rw [k10] at har;exact Og.bind (h.step c x hc hx har (by omega)) (fun y a=>Og.ok a) (fun e he=>Og.err he)
  rw [c0 (by simpa using k10)]
  by_cases k11:x.Kind=11
  · rw [c1 (by rw [k11]; rfl)];rw [k11] at har;exact Og.bind (h.step c x hc hx har (by omega)) (fun y a=>Og.ok a) (fun e he=>Og.err he)
  rw [c0 (by simpa using k11)];exact sz
theorem Z8k : ∀ n,S3 n
  | 0=>⟨fun _ _ _ _ h=>by omega,fun _ _ _ _ h=>by omega,fun _ _ _ _ _ h=>by omega,fun _ _ _ _ _ _ h=>by omega,fun _ _ _ _ _ h=>by omega,fun _ _ _ _ h=>by omega,fun _ _ _ _ _ _ h=>by omega,fun _ _ _ _ _ h=>by omega,fun _ _ _ _ _ h=>by omega,fun _ _ _ _ _ h=>by omega,fun _ _ _ _ _ h=>by omega,fun _ _ _ _ h=>by omega,fun _ _ _ _ h=>by omega⟩
  | n+1=>⟨asked_s3 (Z8k n),X2b (Z8k n),unary_s3 (Z8k n),both_s3 (Z8k n),X2v (Z8k n),lying_s3 (Z8k n),X2w (Z8k n),cond_s3 (Z8k n),call_s3 (Z8k n),X2d (Z8k n),step_s3 (Z8k n),expr_s3 (Z8k n),value_s3 (Z8k n)⟩
theorem i32_nz {b:Int} (h:U32 b) (h0:b ≠ 0):IntKind.wrap .i64 (IntKind.wrap .i32 b) ≠ 0:=by
  unfold U32 at h
  simp only [IntKind.wrap,IntKind.signed,IntKind.bits]
  simp
  omega
theorem Y1z (k:Int) : ∃ m,Q3r k=some m∧(m≤3):=by
  unfold Q3r
  dsimp only [jn]
  cases(k == 1) <;> cases (k == 5) <;> cases (k == 17) <;> cases (k == 6) <;> cases (k == 7) <;> cases (k == 8) <;> cases (k == 9) <;> exact⟨_,rfl,by decide⟩
theorem Z8s : ∀(n:Nat) (m:Nat) (t:Y4),Dp n t→n≤m → ∃ b,(Y2s m).E4 t=some b
  | 0,_,_,h,_=>by cases h
  | n+1,0,_,_,h=>by omega
  | n+1,m+1,t,.mk hk nu _,h=>by
    show ∃ b,Q2h (Y2s m) t=some b
    unfold Q2h
    obtain⟨k,hk1,hk2⟩:=Y1z t.Kind
    rw [hk1,Option.bind_some]
    by_cases hl:(t.Kids.length:Int)=k
    · rw [c0 (by simpa using hl)]
      refine Exists.elim (Q3b (body:=fun(x1:Int)=>(bif decide (x1 < (List.length t.Kids:Int)) then ((idx t.Kids x1).bind fun u1=>((Y2s m).E4 u1).bind fun y2=>bif !y2 then (some (Lp.ret false)) else (some (Lp.go (IntKind.wrap .i64 (x1+1))))) else (some (Lp.brk x1)):Option (Lp (Int) (Bool)))) (n:=NN) (s:=0) (fun s=>0≤s∧s≤t.Kids.length) (fun s=>t.Kids.length - s.toNat) (fun o=>(∃ s,o = .brk s) ∨ ∃ r,o = .ret r) ⟨by omega,by omega⟩ (Q9u (by omega)) ?_) ?_
      · rintro s ⟨s0,s1⟩
        by_cases hs:s < t.Kids.length
        · rw [c1 (dt hs)]
          obtain⟨x,hx,hxm⟩:=I6 ⟨s0,hs⟩
          obtain⟨b,hb⟩:=Z8s n m x (hk x hxm) (by omega)
          rw [hx,Option.bind_some,hb,Option.bind_some]
          cases b with
          | false=>exact⟨_,rfl,.inr ⟨_,rfl⟩⟩
          | true=>exact⟨_,rfl,⟨by rw [w64 (by omega)]; omega,by rw [w64 (by omega)]; omega⟩,by rw [w64 (by omega)]; omega⟩
        · rw [c0 (df hs)]; exact⟨_,rfl,.inl ⟨_,rfl⟩⟩
      · rintro o ⟨ho,hp⟩
        rw [ho,Option.bind_some]
        rcases hp with ⟨s,rfl⟩ | ⟨r,rfl⟩ <;> exact⟨_,rfl⟩
    · rw [c1 (by simpa using hl)]
      exact⟨_,rfl⟩
theorem u32b (op:BinOp) (a b:Int):U32 (bits op .u32 a b):=Y0r _
theorem u1:U32 1:=⟨by decide,by decide⟩
theorem Y2q (b:Bool) : ∃ y,Q7d b=some y∧U32 y:=by
  unfold Q7d;cases b with
  | true=>exact⟨1,rfl,u1⟩
  | false=>exact⟨0,rfl,Z6c⟩
theorem Y9f (a b:Int) : ∃ y,Q9v a b=some y∧U32 y:=by
  unfold Q9v Y1c;cases decide (IntKind.wrap .i32 a < IntKind.wrap .i32 b) with
  | true=>exact⟨1,rfl,u1⟩
  | false=>exact⟨0,rfl,Z6c⟩
theorem Y9o (f a b:Int) : ∃ y e,Q8y f a b=some (y,e)∧U32 y:=by
  unfold Q8y;obtain⟨y1,h1,u1'⟩:=Y2q (a == b);obtain⟨y2,h2,u2'⟩:=Y2q (a != b);obtain⟨y3,h3,u3'⟩:=Y9f a b;obtain⟨y4,h4,u4'⟩:=Y9f b a;rw [h1,h2,h3,h4]
  cases(f == 11) <;> cases (f == 12) <;> cases (f == 13) <;> cases (f == 14) <;> cases (f == 15) <;> cases (f == 16) <;> first
    | exact⟨_,_,rfl,u1'⟩
    | exact⟨_,_,rfl,u2'⟩
    | exact⟨_,_,rfl,u3'⟩
    | exact⟨_,_,rfl,u4'⟩
    | exact⟨_,_,rfl,Y0r _⟩
    | exact⟨_,_,rfl,Z6c⟩
theorem div_any {a b:Int} (hb:U32 b) : ∃ y,Z8b a b=some y∧U32 y:=by
  unfold Z8b
  by_cases h:b=0
  · rw [c1 (by rw [h]; rfl)]; exact⟨_,rfl,by unfold U32; decide⟩
  · rw [c0 (by simpa using h)];unfold Z4h Z6a;rw [show nz (IntKind.wrap .i64 (IntKind.wrap .i32 b))=some () by unfold nz; rw [if_neg (i32_nz hb h)]];exact⟨_,rfl,Y0r _⟩
theorem rem_any {a b:Int} (ha:U32 a) (hb:U32 b) : ∃ y,Z7z a b=some y∧U32 y:=by
  unfold Z7z
  by_cases h:b=0
  · rw [c1 (by rw [h]; rfl)]; exact⟨_,rfl,ha⟩
  · rw [c0 (by simpa using h)];unfold Z1p Z5z;rw [show nz (IntKind.wrap .i64 (IntKind.wrap .i32 b))=some () by unfold nz; rw [if_neg (i32_nz hb h)]];exact⟨_,rfl,Y0r _⟩
theorem Y7a (f:Int) {a b:Int} (ha:U32 a) (hb:U32 b) : ∃ y e,Q8b f a b=some (y,e)∧U32 y:=by
  unfold Q8b
  dsimp only [jn]
  have hnn:nn (bits .and .u32 b 31)=some ():=by unfold nn; rw [if_pos (u32b _ _ _).1]
  have hL : ∃ y,Z5f a b=some y∧U32 y:=by
    unfold Z5f;rw [hnn];exact⟨_,rfl,Y0r _⟩
  have hR : ∃ y,Z1w a b=some y∧U32 y:=by
    unfold Z1w;rw [hnn];exact⟨_,rfl,Y0r _⟩
  obtain⟨yl,hl,ul⟩:=hL;obtain⟨yr,hr,ur⟩:=hR;obtain⟨yd,hd,ud⟩:=div_any (a:=a) hb;obtain⟨ym,hm,um⟩:=rem_any ha hb;obtain⟨yb,hbt,ub⟩:=Y2q (a == 0);obtain⟨yc,ec,hc,uc⟩:=Y9o f a b;rw [hl,hr,hd,hm,hbt,hc]
  have fin : ∀ {c:Bool} {X Y:Option (Int×Int)},(∃ y e,X=some (y,e)∧U32 y)→(∃ y e,Y=some (y,e)∧U32 y) → ∃ y e,(bif c then X else Y)=some (y,e)∧U32 y:=by
    intro c X Y h k;cases c <;> assumption
  repeat' (first
    | exact⟨_,_,rfl,Y0r _⟩
    | exact⟨_,_,rfl,u32b _ _ _⟩
    | exact⟨_,_,rfl,Z6c⟩
    | exact⟨_,_,rfl,ul⟩
    | exact⟨_,_,rfl,ur⟩
    | exact⟨_,_,rfl,ud⟩
    | exact⟨_,_,rfl,um⟩
    | exact⟨_,_,rfl,ub⟩
    | exact⟨_,_,rfl,uc⟩
    | refine fin ?_ ?_)
theorem Y7q {n m:Nat} {t:Y4} (hd:Dp (n+1) t) (hm:n≤m) (h:(Y2s (m+1)).E4 t=some true):Q3r t.Kind=some (t.Kids.length:Int) ∧ ∀ x ∈ t.Kids,(Y2s m).E4 x=some true:=by
  cases hd with
  | mk hk nu _ =>
  have h:Q2h (Y2s m) t=some true:=h;unfold Q2h at h;obtain⟨k,hk1,hk2⟩:=Y1z t.Kind;rw [hk1,Option.bind_some] at h
  by_cases hl:(t.Kids.length:Int)=k
  · rw [c0 (by simpa using hl)] at h;refine⟨by rw [hk1,hl],?_⟩
    have key:=loop_all (R:=Bool) (A:=Bool) (body:=fun(x1:Int)=>(bif decide (x1 < (List.length t.Kids:Int)) then ((idx t.Kids x1).bind fun u1=>((Y2s m).E4 u1).bind fun y2=>bif !y2 then (some (Lp.ret false)) else (some (Lp.go (IntKind.wrap .i64 (x1+1))))) else (some (Lp.brk x1)):Option (Lp (Int) (Bool)))) (f:=fun o=>o.thn (fun(x1:Int)=>some true) (fun r=>some r)) (n:=t.Kids.length) (X:=some (decide (∀ k (hk:k < t.Kids.length),(Y2s m).E4 t.Kids[k]=some true))) (by omega)
      (fun k=>if hk:k < t.Kids.length then decide ((Y2s m).E4 t.Kids[k]=some true) else false) false
      (fun k hk2 _=>by
        rw [c1 (dlt hk2),B6 hk2,Option.bind_some,dif_pos hk2];obtain⟨b,hb⟩:=Z8s n m t.Kids[k] (hk _ (List.getElem_mem hk2)) hm;rw [hb,Option.bind_some];cases b <;> rfl)
      (by rw [c0 (dge _)])
      (fun hall=>by
        show some true=_
        congr 1
        symm
        refine decide_eq_true fun k hk2 => ?_;have:=hall k hk2;rw [dif_pos hk2] at this;exact of_decide_eq_true this)
      (fun⟨k,hk2,hp⟩=>by
        show some false=_
        congr 1
        symm
        refine decide_eq_false fun hall => ?_;rw [dif_pos hk2] at hp;exact absurd (hall k hk2) (of_decide_eq_false hp))
    rw [key] at h;have hall:=of_decide_eq_true (Option.some.inj h);intro x hx;obtain⟨k,hk2,rfl⟩:=List.getElem_of_mem hx;exact hall k hk2
  · rw [c1 (by simpa using hl)] at h;cases h
theorem Y9j : ∀(n m M:Nat) (t:Y4),Dp n t→n≤m→n≤M→(Y2s M).E4 t=some true → ∃ y e,(rec5 m).A1 t=some (y,e)∧U32 y
  | 0,_,_,_,h,_,_,_=>by cases h
  | n+1,0,_,_,_,h,_,_=>by omega
  | n+1,m+1,0,_,_,_,h,_=>by omega
  | n+1,m+1,M+1,t,hd,hm,hM,hn=>by
    obtain⟨ho,hk⟩:=Y7q hd (by omega) hn
    obtain⟨dk,nu⟩:(∀ k ∈ t.Kids,Dp n k)∧U32 t.Num:=match hd with | .mk a b _=>⟨a,b⟩
    show ∃ y e,Z0u (rec5 m) t=some (y,e)∧U32 y
    unfold Z0u
    dsimp only [jn]
    by_cases k1:t.Kind=1
    · rw [c1 (by rw [k1]; rfl)]; exact⟨_,_,rfl,nu⟩
    rw [c0 (by simpa using k1)]
    have kid : ∀ j:Nat,j < t.Kids.length → ∃ x y e,idx t.Kids (j:Int)=some x∧(rec5 m).A1 x=some (y,e)∧U32 y:=fun j hj=>by
      obtain⟨y,e,h1,h2⟩:=Y9j n m M t.Kids[j] (dk _ (List.getElem_mem hj)) (by omega) (by omega) (hk _ (List.getElem_mem hj))
      exact⟨_,y,e,B6 hj,h1,h2⟩
    have hlen:(t.Kind=5 ∨ t.Kind=17)∧t.Kids.length=1 ∨ (t.Kind=6 ∨ t.Kind=7 ∨ t.Kind=8)∧t.Kids.length=2 ∨ t.Kind=9∧t.Kids.length=3:=by
      unfold Q3r at ho
      dsimp only [jn] at ho
      by_cases a5:t.Kind=5
      · rw [a5] at ho; exact .inl ⟨.inl a5,by have:=Option.some.inj ho; omega⟩
      by_cases a17:t.Kind=17
      · rw [a17] at ho; exact .inl ⟨.inr a17,by have:=Option.some.inj ho; omega⟩
      by_cases a6:t.Kind=6
      · rw [a6] at ho; exact .inr (.inl ⟨.inl a6,by have:=Option.some.inj ho; omega⟩)
      by_cases a7:t.Kind=7
      · rw [a7] at ho; exact .inr (.inl ⟨.inr (.inl a7),by have:=Option.some.inj ho; omega⟩)
      by_cases a8:t.Kind=8
      · rw [a8] at ho; exact .inr (.inl ⟨.inr (.inr a8),by have:=Option.some.inj ho; omega⟩)
      by_cases a9:t.Kind=9
      · rw [a9] at ho; exact .inr (.inr ⟨a9,by have:=Option.some.inj ho; omega⟩)
      · rw [beq_eq_false_iff_ne.2 k1,beq_eq_false_iff_ne.2 a5,beq_eq_false_iff_ne.2 a17,beq_eq_false_iff_ne.2 a6,beq_eq_false_iff_ne.2 a7,beq_eq_false_iff_ne.2 a8,beq_eq_false_iff_ne.2 a9] at ho;have:=Option.some.inj ho;omega
    obtain⟨x0,y0,e0,h0,f0,u0⟩:=kid 0 (by omega);rw [show idx t.Kids 0=some x0 from h0,Option.bind_some,f0,Option.bind_some]
    dsimp only
    by_cases he:e0=0
    case neg=>rw [c1 (by simpa using he)]; exact⟨_,_,rfl,Z6c⟩
    rw [c0 (by rw [he]; rfl)]
    have two:2≤t.Kids.length → ∃ y e,((idx t.Kids 1).bind fun u4=>((rec5 m).A1 u4).bind fun y6=>bif y6.2 != 0 then (some ((0:Int),y6.2)) else (bif t.Kind != 6 then ((Q7d (y6.1 != 0)).bind fun y7=>some (y7,(0:Int))) else ((Q8b t.Fn y0 y6.1).bind fun y8=>some (y8.1,y8.2))))=some (y,e)∧U32 y:=fun h2=>by
      obtain⟨x1,y1,e1,h1,f1,u1'⟩:=kid 1 (by omega);rw [show idx t.Kids 1=some x1 from h1,Option.bind_some,f1,Option.bind_some]
      dsimp only
      cases(e1 != 0) with
      | true=>exact⟨_,_,rfl,Z6c⟩
      | false =>
        obtain⟨b,hb,ub⟩:=Y2q (y1 != 0);obtain⟨ya,ea,ha,ua⟩:=Y7a t.Fn u0 u1';rw [hb,ha];cases(t.Kind != 6) with
        | true=>exact⟨_,_,rfl,ub⟩
        | false=>exact⟨_,_,rfl,ua⟩
    obtain⟨b0,hb0,ub0⟩:=Y2q (y0 != 0)
    rcases hlen with ⟨a | a,hl⟩ | ⟨a | a | a,hl⟩ | ⟨a,hl⟩ <;> rw [a] at two ⊢
    · obtain⟨ya,ea,ha,ua⟩:=Y7a t.Fn u0 Z6c;rw [ha];exact⟨_,_,rfl,ua⟩
    · exact⟨_,_,rfl,u32b _ _ _⟩
    · exact two (by omega)
    · rw [hb0];cases hq:((y0 != 0) == ((7:Int) == 8)) with
      | true=>exact⟨b0,0,by simp [],ub0⟩
      | false => 
        have:=two (by omega)
        simpa [hq] using this
    · rw [hb0];cases hq:((y0 != 0) == ((8:Int) == 8)) with
      | true=>exact⟨b0,0,by simp [],ub0⟩
      | false => 
        have:=two (by omega)
        simpa [hq] using this
    · obtain⟨x1,y1,e1,h1,f1,u1'⟩:=kid 1 (by omega);obtain⟨x2,y2,e2,h2,f2,u2'⟩:=kid 2 (by omega);rw [show idx t.Kids 1=some x1 from h1,show idx t.Kids 2=some x2 from h2,Option.bind_some,Option.bind_some,f1,f2];cases(y0 != 0) with
      | true=>exact⟨_,_,rfl,u1'⟩
      | false=>exact⟨_,_,rfl,u2'⟩
theorem Fold_any {n:Nat} {t:Y4} (h:Dp n t) (hn:n≤NN) : ∃ y e,Z4f t=some (y,e)∧U32 y:=by
  unfold Z4f;obtain⟨b,hb⟩:=Z8s n NN t h hn;rw [show E4 t=some b from hb,Option.bind_some];cases b with
  | false=>exact⟨_,_,rfl,Z6c⟩
  | true =>
    obtain⟨y,e,hf,hu⟩:=Y9j n NN NN t h hn hn hb;rw [c0 (b := !true) rfl,show A1 t=some (y,e) from hf];exact⟨_,_,rfl,hu⟩
theorem Z9l {c:Q0} (hc:Ck c) {x:Z8} (hx:OkX x):Og Ep (Z4 c x) (QV c (6 * wE x)):=(Z8k NN).value c x hc hx (by have:=hx.w; unfold NN; omega)
theorem expr_any {c:Q0} (hc:Ck c) {x:Z8} (hx:OkX x):Og Ep (V2 c x) (QV c (6 * wE x - 2)):=(Z8k NN).expr c x hc hx (by have:=hx.w; unfold NN; omega)
theorem Y6y {c:Q0} (hc:Ck c) {x:Z8} (hx:OkX x):Og Ep (X9 c x) (QT c (6 * wE x)):=(Z8k NN).asked c x hc hx (by have:=hx.w; unfold NN; omega)
theorem X0n {c:Q0} (hc:Ck c) {x:Z8} (hx:OkX x):Og Ep (X4 c x) (QT c (6 * wE x)):=(Z8k NN).number c x hc hx (by have:=hx.w; unfold NN; omega)
theorem sz_in {t:Z6} {n:Int} (h:szT t n ≠ 0):0≤n∧n < t.list.length:=by
  by_cases h0:0≤n∧n < t.list.length
  · exact h0
  · exact absurd (by unfold szT; rw [Z5o h0]) h
theorem Gr.ty {t t' : Z6} (h:Gr t t') {n:Int} (hn:0≤n∧n < t.list.length):tyT t' n=tyT t n:=by
  obtain⟨x,hx,_⟩:=I6 hn;unfold tyT;rw [h.idx hx,hx]
theorem Gr.pa {t t' : Z6} (h:Gr t t') {n:Int} (hn:0≤n∧n < t.list.length):paT t' n=paT t n:=by
  unfold paT;rw [h.ty hn]
theorem X2s (w b:Int) (k:Int) (l:List Int) (hk:0≤k∧k≤100000) (hw:0≤w∧w≤32768) (hl:w=0 ∨ w * k+w≤l.length) (hk2:w * k≤100000000) (hkw:0≤w * k) : ∃ l2 x,loopM (fun(x26,x27)=>(bif decide (x27 < w) then ((nn (IntKind.wrap .i64 (8 * x27))).bind fun _=>(idx x26 (IntKind.wrap .i64 ((IntKind.wrap .i64 (w * k))+x27))).bind fun u5=>(idx x26 (IntKind.wrap .i64 ((IntKind.wrap .i64 (w * k))+x27))).bind fun u6=>some (Lp.go (List.set x26 (Int.toNat (IntKind.wrap .i64 ((IntKind.wrap .i64 (w * k))+x27))) (IntKind.wrap .u8 (Int.fdiv b (2 ^ (min (Int.toNat (IntKind.wrap .i64 (8 * x27))) (IntKind.bits .u32))))),IntKind.wrap .i64 (x27+1)))) else (some (Lp.brk (x26,x27))):Option (Lp ((List Int)×Int) (Unit)))) NN (l,(0:Int))=some (.brk (l2,x))∧l2.length=l.length:=by
  refine Exists.elim (Q3b (body:=fun(x26,x27)=>(bif decide (x27 < w) then ((nn (IntKind.wrap .i64 (8 * x27))).bind fun _=>(idx x26 (IntKind.wrap .i64 ((IntKind.wrap .i64 (w * k))+x27))).bind fun u5=>(idx x26 (IntKind.wrap .i64 ((IntKind.wrap .i64 (w * k))+x27))).bind fun u6=>some (Lp.go (List.set x26 (Int.toNat (IntKind.wrap .i64 ((IntKind.wrap .i64 (w * k))+x27))) (IntKind.wrap .u8 (Int.fdiv b (2 ^ (min (Int.toNat (IntKind.wrap .i64 (8 * x27))) (IntKind.bits .u32))))),IntKind.wrap .i64 (x27+1)))) else (some (Lp.brk (x26,x27))):Option (Lp ((List Int)×Int) (Unit)))) (n:=NN) (s:=(l,(0:Int))) (fun s=>s.1.length=l.length∧0≤s.2∧s.2≤w) (fun s=>w.toNat - s.2.toNat) (fun o => ∃ l2 x,o = .brk (l2,x)∧l2.length=l.length) ⟨rfl,Int.le_refl 0,by dsimp only; omega⟩ (Q9u (by dsimp only; omega)) ?_) ?_
  · rintro⟨x26,x27⟩ ⟨i1,i2,i3⟩
    dsimp only at i1 i2 i3 ⊢
    by_cases hs:x27 < w
    · rw [c1 (dt hs),w64 (x:=8 * x27) (by omega),show nn (8 * x27)=some () by unfold nn; rw [if_pos (by omega)],Option.bind_some,w64 (x:=w * k) (by omega),w64 (x:=w * k+x27) (by omega)];obtain⟨q,hq,_⟩:=I6 (l:=x26) (n:=w * k+x27) ⟨by omega,by rw [i1]; rcases hl with hl | hl <;> omega⟩
      rw [hq,Option.bind_some,Option.bind_some];exact⟨_,rfl,⟨by simpa using i1,by dsimp only; rw [w64 (by omega)]; omega,by dsimp only; rw [w64 (by omega)]; omega⟩,by dsimp only; rw [w64 (by omega)]; omega⟩
    · rw [c0 (df hs)];exact⟨_,rfl,_,_,rfl,i1⟩
  · rintro o ⟨ho,l2,x,rfl,hl2⟩;exact⟨l2,x,ho,hl2⟩
theorem data_g {c:Q0} (hc:Ck c) {v:F2} (hv:OkV v) (hx : ∀ x ∈ v.Init,wE x≤10000) (hl:v.Init.length≤5000) {n:Int} (hn:szT c.t n ≠ 0):Og Ep (R1 c v n) (fun x=>Tg c x.2):=by
  have hin:=sz_in hn;have hsz:=X0g hc.tab n;unfold R1
  dsimp only [jn]
  refine Og.step (Q4r _ _) ?_;refine Og.step (x:=List.replicate (szT c.t n).toNat 0) (by unfold repl; rw [if_pos (by omega)]) ?_;refine Og.bind (X1k hc.tab hv n) (fun l hi => ?_) (fun e he=>Og.err he)
  have hll:l.length≤5000:=by
    rcases hi.1 with h | h
    · rw [h]; simp
    · rw [h]; exact hl
  have hox : ∀ x ∈ l,OkX x:=by
    intro x hm
    rcases hi.1 with h | h
    · rw [h] at hm; cases hm
    · rw [h] at hm; exact⟨hv.init x hm,hx x hm⟩
  refine Og.loop (fun s=>s.1.length=(szT c.t n).toNat∧0≤s.2.1∧s.2.1≤l.length∧Tg c {s.2.2.1 with t:=s.2.2.2}) (fun s=>l.length - s.2.1.toNat) ⟨by simp,Int.le_refl 0,by dsimp only; omega,Tg.refl hc.tab⟩ (by dsimp only; omega) ?_;rintro⟨x1,x11,x12,x13⟩ ⟨i1,i2,i3,i4⟩
  dsimp only at i1 i2 i3 i4 ⊢
  by_cases hs:x11 < l.length
  · rw [c1 (dt hs)];obtain⟨u,hu,hum⟩:=I6 ⟨i2,hs⟩;have ou:=hox u hum;have hne:l ≠ []:=fun e=>by rw [e] at hs; simp at hs; omega
    have hw:=(hi.2 hne).2;refine Rn.step hu ?_;refine Rn.bindG (Z9l (hc.tg i4) ou) (fun y3 a3 => ?_) (fun e he=>Rn.ok (Og.err he));have tg:=i4.trans a3.1;refine Rn.step (Y3v a3.1.tab n) ?_;have pu:=Q2e u;refine Rn.bindG (Z5g a3.1.tab ou.pn (n:=6 * wE u) (by omega) a3.2 _) (fun y5 a5 => ?_) (fun e he=>Rn.ok (Og.err he));have how:=ou.w;obtain⟨b,e,hf,hb⟩:=Fold_any a5 (by unfold NN; omega);refine Rn.step hf ?_;refine Y4u ou.pn (fun _ => ?_) (fun e he=>Og.err he);refine Rn.step (Y3v a3.1.tab n) ?_;obtain⟨w,hwc,hw1,hw2⟩:=Y5k a3.1.tab (paT y3.2.t n);refine Rn.step hwc ?_;have hpa:paT y3.2.t n=paT c.t n:=tg.gr.pa hin;have hp0:=(hi.2 hne).1
    have hwe:w=0 ∨ w=szT c.t (paT c.t n):=by
      by_cases h0:w=0
      · exact .inl h0
      · right
        rw [hw1 h0,hpa];exact tg.gr.sz (sz_in hp0)
    have hmul:w=0 ∨ w * x11+w≤(x1.length:Int):=by
      rcases hwe with h | h
      · exact .inl h
      · right
        have h1:w * (x11+1)≤w * (l.length:Int):=Int.mul_le_mul_of_nonneg_left (by omega) hw2.1;have h2:w * (x11+1)=w * x11+w:=by rw [Int.mul_add,Int.mul_one]
        rw [h] at h1 h2 ⊢;omega
    have hk0:0≤w * x11:=Int.mul_nonneg hw2.1 i2
    have hk1:w * x11≤100000000:=by
      rcases hmul with h | h
      · rw [h]; simp
      · omega
    obtain⟨l2,x,hlo,hl2⟩:=X2s w b x11 x1 (by omega) hw2 hmul hk1 hk0;refine Rn.step hlo ?_;exact Rn.ok ⟨⟨by dsimp only; rw [hl2]; exact i1,by dsimp only; rw [w64 (by omega)]; omega,by dsimp only; rw [w64 (by omega)]; omega,tg⟩,by dsimp only; rw [w64 (by omega)]; omega⟩
  · rw [c0 (df hs)];exact Rn.ok (Og.ok i4)
theorem Y9e {K V:Type} [DecidableEq K] (k k' : K) (v:V) : ∀ l:List (K×V),Q5z (Q7t l k v) k' = if k' = k then some v else Q5z l k'
  | []=>by
    unfold Q7t Q5z
    dsimp only
    split
    · rfl
    · unfold Q5z; rfl
  | p::l=>by
    unfold Q7t
    by_cases h:k=p.1
    · rw [if_pos h]
      unfold Q5z
      dsimp only
      by_cases e:k' = k
      · rw [if_pos e,if_pos e]
      · rw [if_neg e,if_neg e,if_neg (fun q=>e (q.trans h.symm))]
    · rw [if_neg h]
      unfold Q5z
      by_cases e:k' = p.1
      · rw [if_pos e,if_neg (fun q=>h (q.symm.trans e)),if_pos e]
      · rw [if_neg e,if_neg e]
        exact Y9e k k' v l
theorem Y9d {K V:Type} [DecidableEq K] (k:K) (v:V) : ∀ l:List (K×V),Q5z l k=none→(Q7t l k v).length=l.length+1
  | [],_=>rfl
  | p::l,h=>by
    unfold Q5z at h
    unfold Q7t
    by_cases e:k=p.1
    · rw [if_pos e] at h; cases h
    · rw [if_neg e] at h
      rw [if_neg e,List.length_cons,Y9d k v l h,List.length_cons]
theorem MpO.put {m:Option (List (List UInt8×Int))} {n:Nat} (h:MpO m n) {k:List UInt8} {l:List (List UInt8×Int)} (hl:m=some l) (hn:Z3y m=n) (hk:Q5z l k=none):MpO (some (Q7t l k (n:Int))) (n+1)∧Z3y (some (Q7t l k (n:Int)))=n+1:=by
  obtain⟨l',hl',hv⟩:=h;rw [hl] at hl';cases hl';have hlen:l.length=n:=by rw [hl] at hn; exact hn
  refine⟨⟨_,rfl,fun k' v h => ?_⟩,by unfold Z3y; rw [Option.getD_some,Y9d _ _ _ hk,hlen]⟩;rw [Y9e] at h
  split at h
  · cases h; omega
  · have:=hv _ _ h; omega
theorem Y3h {o:Option Int} (h:o.isSome=false):o=none:=by cases o with
  | none=>rfl
  | some x=>cases h
theorem named_g {c:Q0} (hc:Ck c) {p:Pos} (hp:Pn p) (nm:List UInt8):Og Ep (L4 c p nm) (fun c' => ∃ gm,c.globals=some gm∧Q5z gm nm=none∧c.gtypes.length < 200∧c' = {c with globals:=some (Q7t gm nm (c.gtypes.length:Int))}):=by
  unfold L4;obtain⟨gm,hg,hv⟩:=hc.gl;have hgn:=hc.gn;have hlg:=hc.lg;rw [hgn];cases hb:((D3 c.globals nm).isSome || (D3 c.codes nm).isSome) with
  | true=>rw [c1 (b:=true) rfl]; exact Z0t hp (by decide)
  | false =>
    rw [c0 (b:=false) rfl]
    simp only [Bool.or_eq_false_iff] at hb
    have h1:=Y3h hb.1;unfold D3 at h1;rw [hg,Option.bind_some] at h1
    by_cases h2:c.gtypes.length=200
    · rw [c1 (by rw [h2]; rfl)]; exact Z0t hp (by decide)
    · rw [c0 (beq_eq_false_iff_ne.2 (by omega)),hg,Option.bind_some];exact Og.ok ⟨gm,rfl,h1,by omega,rfl⟩
theorem named2_g {c:Q0} (hc:Ck c) {p:Pos} (hp:Pn p) (nm:List UInt8):Og Ep (E9 c p nm) (fun c' => ∃ gm,c.codes=some gm∧Q5z gm nm=none∧c.signs.length < 200∧c' = {c with codes:=some (Q7t gm nm (c.signs.length:Int))}):=by
  unfold E9;obtain⟨gm,hg,hv⟩:=hc.co;have hgn:=hc.cn;have hlg:=hc.lc;rw [hgn];cases hb:((D3 c.globals nm).isSome || (D3 c.codes nm).isSome) with
  | true=>rw [c1 (b:=true) rfl]; exact Z0t hp (by decide)
  | false =>
    rw [c0 (b:=false) rfl]
    simp only [Bool.or_eq_false_iff] at hb
    have h1:=Y3h hb.2;unfold D3 at h1;rw [hg,Option.bind_some] at h1
    by_cases h2:c.signs.length=200
    · rw [c1 (by rw [h2]; rfl)]; exact Z0t hp (by decide)
    · rw [c0 (beq_eq_false_iff_ne.2 (by omega)),hg,Option.bind_some];exact Og.ok ⟨gm,rfl,h1,by omega,rfl⟩
structure Gl (c c' : Q0):Prop where
  ck:Ck c'
  f:c'.fun_=c.fun_
  d:c'.u.Data.length=c.u.Data.length+1
  gr:Gr c.t c'.t
  s:c'.signs=c.signs
theorem global_g {c:Q0} (hc:Ck c) {v:F2} (hv:OkV v) (hd:v.Dims.length≤5000) (hx : ∀ x ∈ v.Init,wE x≤10000) (hl:v.Init.length≤5000) (hdl:c.u.Data.length≤100000):Og Ep (H0 c v) (Gl c):=by
  unfold H0;refine Og.bind (X1b hc.tab hv hd) (fun y1 a1 => ?_) (fun e he=>Og.err he);rw [a1.1.back];have hc1:=hc.tg a1.1;refine Og.bind (named_g hc1 hv.pos v.Name) (fun y2 a2 => ?_) (fun e he=>Og.err he);obtain⟨gm,hg,hn,hlt,rfl⟩:=a2;have hf:y1.2.fun_=c.fun_:=a1.1.fun_eq;obtain⟨s,hs⟩:=Y8t (c := {({y1.2 with globals:=some (Q7t gm v.Name (y1.2.gtypes.length:Int))} : Q0) with fun_:=c.fun_}) hc1.tab v.Name y1.1;refine Og.step hs ?_;have hug:=hc1.ug;refine Og.step (P4 (by simp; omega)) ?_;refine Og.step (P4 (by simp; omega)) ?_;have put:=hc1.gl.put hg hc1.gn hn
  have ck:Ck {({y1.2 with globals:=some (Q7t gm v.Name (y1.2.gtypes.length:Int))} : Q0) with u := {y1.2.u with Globals:=y1.2.u.Globals ++ [s]},gtypes:=y1.2.gtypes ++ [y1.1],fun_:=c.fun_} :=
    ⟨hc1.tab,by simpa using put.1,hc1.co,hc.fn,by simpa using put.2,hc1.cn,by simp; omega,hc1.uc,by simp; omega,hc1.lc⟩
  refine Og.bind (data_g ck hv hx hl a1.2) (fun y4 a4 => ?_) (fun e he=>Og.err he);have he:=a4.eq;have hck:=ck.tg a4;have hu:y1.2.u=c.u:=by rw [a1.1.eq]
  refine Og.step (P4 (by rw [he]; simp [hu]; omega)) ?_;refine Og.ok ⟨⟨hck.tab,hck.gl,hck.co,hck.fn,hck.gn,hck.cn,hck.ug,hck.uc,hck.lg,hck.lc⟩,by dsimp only; rw [he],by dsimp only; rw [he]; simp [hu],a1.1.gr.trans a4.gr,by dsimp only; rw [he]; dsimp only; rw [a1.1.eq]⟩
structure Tt (c c' : Q0):Prop where
  eq:c' = {c with t:=c'.t}
  tab:Tab c'.t
theorem Tt.refl {c:Q0} (h:Tab c.t):Tt c c:=⟨rfl,h⟩
theorem Tt.tg {a b c:Q0} (h:Tt a b) (g:Tg b c):Tt a c:=⟨by rw [g.eq,h.eq],g.tab⟩
theorem Tt.put {a b:Q0} (h:Tt a b) {t:Z6} (ht:Tab t):Tt a {b with t:=t} := ⟨by
  have e:=h.eq
  generalize b.t=t' at e
  subst e
  rfl,ht⟩
theorem Ck.tt {c c' : Q0} (h:Ck c) (g:Tt c c'):Ck c' := by
  have e:=g.eq;have t:=g.tab
  generalize c'.t=t' at e t
  subst e;exact⟨t,h.gl,h.co,h.fn,h.gn,h.cn,h.ug,h.uc,h.lg,h.lc⟩
structure OkG (s:D4):Prop where
  pos:Pn s.Pos
  f : ∀ v ∈ s.Fields,OkV v∧v.Dims.length≤5000
  l:s.Fields.length≤5000
theorem X1v {c:Q0} (hc:Tab c.t) {l:List D4} (hl:l.length≤5000) (hs : ∀ s ∈ l,OkG s):Og Ep (M6 c l) (Tt c):=by
  unfold M6;refine Og.loop (fun s=>0≤s.1∧s.1≤l.length∧Tab s.2) (fun s=>l.length - s.1.toNat) ⟨Int.le_refl 0,by dsimp only; omega,hc⟩ (by dsimp only; omega) ?_;rintro⟨x2,x3⟩ ⟨i1,i2,i3⟩
  dsimp only at i1 i2 i3 ⊢
  by_cases h0:x2 < l.length
  · rw [c1 (dt h0)];obtain⟨s,hs1,hsm⟩:=I6 ⟨i1,h0⟩;refine Rn.step hs1 ?_;obtain⟨m,e,t',hy,g1⟩:=open_any i3 s.Name;refine Rn.step hy ?_;exact Y4u (hs s hsm).pos (fun _=>Rn.ok ⟨⟨by dsimp only; rw [w64 (by omega)]; omega,by dsimp only; rw [w64 (by omega)]; omega,g1⟩,by dsimp only; rw [w64 (by omega)]; omega⟩) (fun e he=>Og.err he)
  rw [c0 (df h0)];refine Rn.ok ?_;refine Og.loop (fun s=>0≤s.1∧s.1≤l.length∧Tt c {s.2.1 with t:=s.2.2}) (fun s=>l.length - s.1.toNat) ⟨Int.le_refl 0,by dsimp only; omega,(Tt.refl hc).put i3⟩ (by dsimp only; omega) ?_;rintro⟨x12,x13,x14⟩ ⟨j1,j2,j3⟩
  dsimp only at j1 j2 j3 ⊢
  by_cases h1:x12 < l.length
  · rw [c1 (dt h1)];obtain⟨s,hs1,hsm⟩:=I6 ⟨j1,h1⟩;have os:=hs s hsm;have osl:=os.l;refine Rn.step hs1 ?_
    refine Exists.elim (Q3b (body:=(fun(x15,x24,x25,x26)=>(bif decide (x24 < (List.length s.Fields:Int)) then ((idx s.Fields x24).bind fun u4=>(D9 ({x25 with t:=x26}) u4).bind fun y3=>exC y3 (fun y3=>(S0 (List.length x15+List.length ([(⟨u4.Name,y3.1,0⟩:U8)]:List U8))).bind fun _=>some (Lp.go (x15++([(⟨u4.Name,y3.1,0⟩:U8)]:List U8),IntKind.wrap .i64 (x24+1),y3.2,y3.2.t))) (fun e2=>some (Lp.ret (Except.error (e2.1,e2.2))))) else (some (Lp.brk (x15,x24,{x25 with t:=x26},x26))):Option (Lp ((List U8)×Int×Q0×Z6) (Except (Z3×Q0) (Q0)))))) (n:=NN) (s:=([],(0:Int),({x13 with t:=x14} : Q0),x14))
      (fun s' => (0≤s'.2.1∧s'.2.1≤s.Fields.length)∧s'.1.length≤s'.2.1∧Tt c {s'.2.2.1 with t:=s'.2.2.2}) (fun s' => s.Fields.length - s'.2.1.toNat)
      (fun o=>match o with
        | .go _=>False
        | .brk s' => s'.1.length≤5000∧Tt c {s'.2.2.1 with t:=s'.2.2.2}
        | .ret z => ∃ e,z=Except.error e∧Ep e) ⟨⟨Int.le_refl 0,by dsimp only; omega⟩,by simp,j3⟩ (Q9u (by dsimp only; omega)) ?_) ?_
    · rintro⟨x15,x24,x25,x26⟩ ⟨k1,k2,k3⟩
      dsimp only at k1 k2 k3 ⊢
      by_cases h2:x24 < s.Fields.length
      · rw [c1 (dt h2)];obtain⟨v,hv,hvm⟩:=I6 ⟨k1.1,h2⟩;have ov:=os.f v hvm;obtain⟨z,ez,hz⟩:=Y9n k3.tab ov.1 ov.2;rw [hv,Option.bind_some,ez,Option.bind_some];cases z with
        | error e=>exact⟨_,rfl,_,rfl,hz⟩
        | ok y =>
          dsimp only [exC]
          rw [P4 (by simp; omega),Option.bind_some];exact⟨_,rfl,⟨by dsimp only; rw [w64 (by omega)]; omega,by dsimp only; rw [w64 (by omega)]; simp; omega,k3.tg hz⟩,by dsimp only; rw [w64 (by omega)]; omega⟩
      · rw [c0 (df h2)];exact⟨_,rfl,by dsimp only; omega,k3⟩
    · rintro o ⟨ho,hp⟩;rw [ho,Option.bind_some];cases o with
      | go _=>exact hp.elim
      | ret z =>
        obtain⟨e,rfl,he⟩:=hp;exact Rn.ok (Og.err he)
      | brk s' =>
        obtain⟨x15,x24,x25,x26⟩:=s';obtain⟨p1,p2⟩:=hp
        dsimp only at p1 p2
        obtain⟨m,e,t',hy,g1⟩:=X0h p2.tab s.Name p1;refine Rn.step hy ?_;refine Y4u os.pos (fun _=>Rn.ok ⟨⟨by dsimp only; rw [w64 (by omega)]; omega,by dsimp only; rw [w64 (by omega)]; omega,p2.put g1⟩,by dsimp only; rw [w64 (by omega)]; omega⟩) (fun e he=>Og.err he)
  · rw [c0 (df h1)];exact Rn.ok (Og.ok j3)
structure Hd (c:Q0) (n:Nat) (c' : Q0):Prop where
  ck:Ck c'
  f:c'.fun_=c.fun_
  d:c'.u.Data=c.u.Data
  s : ∃ s,c'.signs=c.signs ++ [s]∧s.params.length=n
structure OkH (f:P3):Prop where
  pos:Pn f.Pos
  r:OkT f.Ret
  p : ∀ v ∈ f.Params,OkV v
  l:f.Params.length≤5000
theorem header_g {c:Q0} (hc:Ck c) {f:P3} (hf:OkH f):Og Ep (A9 c f) (Hd c f.Params.length):=by
  have hpl:=hf.l;unfold A9;refine Og.bind (Y1j hc.tab hf.pos hf.r) (fun y1 a1 => ?_) (fun e he=>Og.err he);have hc1:=hc.tg a1
  have cont:Og Ep ((E9 y1.2 f.Pos f.Name).bind fun y4=>exC y4 (fun y4=>bif decide (6 < (List.length f.Params:Int)) then ((Y6 f.Pos 2).bind fun y5=>exC y5 (fun y5=>none) (fun e2=>some (Except.error (e2,y4)))) else ((loopM (fun(x10,x11,x12,x13)=>(bif decide (x10 < (List.length f.Params:Int)) then ((idx f.Params x10).bind fun u3=>(J5 ({x12 with t:=x13}) u3.Pos u3.Type_).bind fun y6=>exC y6 (fun y6=>(B5 y6.2.t y6.1).bind fun y7=>bif !y7 then ((Y6 u3.Pos 5).bind fun y8=>exC y8 (fun y8=>none) (fun e3=>some (Lp.ret (Except.error (e3,y6.2))))) else ((S0 (List.length x11.params+List.length ([y6.1]:List Int))).bind fun _=>some (Lp.go (IntKind.wrap .i64 (x10+1),(⟨x11.ret,x11.params++([y6.1]:List Int)⟩:M2),y6.2,y6.2.t)))) (fun e4=>some (Lp.ret (Except.error (e4.1,e4.2))))) else (some (Lp.brk (x10,x11,{x12 with t:=x13},x13))):Option (Lp (Int×M2×Q0×Z6) (Except (Z3×Q0) (Q0))))) NN ((0:Int),(⟨y1.1,[]⟩:M2),y4,y4.t)).bind fun o=>o.thn (fun(x10,x11,x12,x13)=>(S0 (List.length x12.signs+List.length ([x11]:List M2))).bind fun _=>(S0 (List.length x12.u.Codes+List.length ([(⟨f.Name,y1.1 == 0,(List.length f.Params:Int),[],[]⟩:Q4d)]:List Q4d))).bind fun _=>some (Except.ok ({x12 with t:=x13,u := {x12.u with Codes:=x12.u.Codes++([(⟨f.Name,y1.1 == 0,(List.length f.Params:Int),[],[]⟩:Q4d)]:List Q4d)},signs:=x12.signs++([x11]:List M2)}))) (fun r=>some r))) (fun e5=>some (Except.error (e5.1,e5.2)))) (Hd c f.Params.length):=by
    refine Og.bind (named2_g hc1 hf.pos f.Name) (fun y2 a2 => ?_) (fun e he=>Og.err he);obtain⟨gm,hg,hn,hlt,rfl⟩:=a2;cases decide (6 < (f.Params.length:Int)) with
    | true=>rw [c1 (b:=true) rfl]; exact Q0g hf.pos (by decide)
    | false =>
    rw [c0 (b:=false) rfl];refine Og.loop (fun s=>(0≤s.1∧s.1≤f.Params.length)∧(s.2.1.params.length:Int)=s.1∧Tt {y1.2 with codes:=some (Q7t gm f.Name (y1.2.signs.length:Int))} {s.2.2.1 with t:=s.2.2.2}) (fun s=>f.Params.length - s.1.toNat) ⟨⟨Int.le_refl 0,by dsimp only; omega⟩,rfl,Tt.refl hc1.tab⟩ (by dsimp only; omega) ?_;rintro⟨x10,x11,x12,x13⟩ ⟨i1,i2,i3⟩
    dsimp only at i1 i2 i3 ⊢
    by_cases h0:x10 < f.Params.length
    · rw [c1 (dt h0)];obtain⟨v,hv,hvm⟩:=I6 ⟨i1.1,h0⟩;have ov:=hf.p v hvm;refine Rn.step hv ?_;refine Rn.bindG (Y1j i3.tab ov.pos ov.ty) (fun y6 a6 => ?_) (fun e he=>Rn.ok (Og.err he));obtain⟨b,hb⟩:=Z1g y6.2.t y6.1;refine Rn.step hb ?_;cases b with
      | false=>rw [c1 (b := !false) rfl]; exact fail_l ov.pos (by decide) (fun e he=>Og.err he)
      | true =>
        rw [c0 (b := !true) rfl];refine Rn.step (P4 (by simp; omega)) ?_;exact Rn.ok ⟨⟨by dsimp only; rw [w64 (by omega)]; omega,by dsimp only; rw [w64 (by omega)]; simp; omega,i3.tg a6⟩,by dsimp only; rw [w64 (by omega)]; omega⟩
    · rw [c0 (df h0)];refine Rn.ok ?_;have he:=i3.eq;have hs:x12.signs=y1.2.signs:=by have:=congrArg Q0.signs he; exact this
      have hu:x12.u=y1.2.u:=by have:=congrArg Q0.u he; exact this
      have hgl:x12.globals=y1.2.globals:=by have:=congrArg Q0.globals he; exact this
      have hco:x12.codes=some (Q7t gm f.Name (y1.2.signs.length:Int)):=by have:=congrArg Q0.codes he; exact this
      have hgt:x12.gtypes=y1.2.gtypes:=by have:=congrArg Q0.gtypes he; exact this
      have hfu:x12.fun_=y1.2.fun_:=by have:=congrArg Q0.fun_ he; exact this
      have hlc:=hc1.lc;have huc:=hc1.uc
      dsimp only [Lp.thn]
      refine Og.step (P4 (by rw [hs]; simp; omega)) ?_;refine Og.step (P4 (by rw [hu]; simp; omega)) ?_;have put:=hc1.co.put hg hc1.cn hn;have hsg:y1.2.signs=c.signs:=by rw [a1.eq]
      refine Og.ok ⟨⟨i3.tab,by dsimp only; rw [hgl,hgt]; exact hc1.gl,by dsimp only; rw [hco,hs]; simpa using put.1,by dsimp only; rw [hfu]; exact hc1.fn,by dsimp only; rw [hgl,hgt]; exact hc1.gn,by dsimp only; rw [hco,hs]; simpa using put.2,by dsimp only; rw [hu,hgt]; exact hc1.ug,by dsimp only; rw [hu,hs]; simp; omega,by dsimp only; rw [hgt]; exact hc1.lg,by dsimp only; rw [hs]; simp; omega⟩,by dsimp only; rw [hfu,a1.fun_eq],by dsimp only; rw [hu,a1.eq],x11,by dsimp only; rw [hs,hsg],by omega⟩
  cases(y1.1 != 0) with
  | false=>exact cont
  | true =>
    rw [c1 (b:=true) rfl];obtain⟨b,hb⟩:=Z1g y1.2.t y1.1;refine Og.step hb ?_;cases b with
    | false=>rw [c1 (b := !false) rfl]; exact Q0g hf.pos (by decide)
    | true=>exact cont
theorem main_g {c:Q0} (hc:Ck c) {l:List P3} (hl:l.length=c.signs.length) (hp : ∀ f ∈ l,Pn f.Pos):Og Ep (I3 c l) (fun c' => ∃ k,c' = {c with u := {c.u with Main:=k}}):=by
  unfold I3;obtain⟨gm,hg,hv⟩:=hc.co;have hgm:D3 c.codes ([109,97,105,110]:List UInt8)=Q5z gm [109,97,105,110]:=by unfold D3; rw [hg]; rfl
  rw [hgm];cases he:Q5z gm [109,97,105,110] with
  | none=>rw [c1 (b := !(Option.isSome none)) rfl]; exact Q0g (by unfold Pn; decide) (by decide)
  | some v =>
    have hr:=hv _ _ he;rw [c0 (b := !(Option.isSome (some v))) rfl];obtain⟨s,hs,_⟩:=I6 hr;obtain⟨f,hf,hfm⟩:=I6 (l:=l) (n:=v) ⟨hr.1,by rw [hl]; exact hr.2⟩;refine Og.step hs ?_;cases decide (0 < (s.params.length:Int)) with
    | true=>rw [c1 (b:=true) rfl]; exact Og.step hf (Q0g (hp f hfm) (by decide))
    | false =>
      rw [c0 (b:=false) rfl];refine Og.step hs ?_;cases(s.ret != 1) with
      | true=>rw [c1 (b:=true) rfl]; exact Og.step hf (Q0g (hp f hfm) (by decide))
      | false=>exact Og.ok ⟨v,rfl⟩
structure St (c c' : Q0):Prop where
  eq:c' = {c with t:=c'.t,fun_:=c'.fun_}
  ck:Ck c'
  gr:Gr c.t c'.t
  fn : ∃ f f',c.fun_ = .some f∧c'.fun_ = .some f' ∧ f'.scopes.length=f.scopes.length
theorem St.trans {a b c:Q0} (h:St a b) (g:St b c):St a c:=by
  obtain⟨f,f',h1,h2,h3⟩:=h.fn;obtain⟨k,k',g1,g2,g3⟩:=g.fn;rw [h2] at g1;cases g1;exact⟨by rw [g.eq,h.eq],g.ck,h.gr.trans g.gr,f,k',h1,g2,by omega⟩
theorem St.of {c c' : Q0} (h:Ck c) (g:Tg c c') {f:G5} (hf:c.fun_ = .some f):St c c' := ⟨by
  have e:=g.eq
  have hfu:=g.fun_eq
  rw [hfu]
  exact e,h.tg g,g.gr,f,f,hf,by rw [g.fun_eq]; exact hf,rfl⟩
theorem MpO.mono {m:Option (List (List UInt8×Int))} {n k:Nat} (h:MpO m n) (hk:n≤k):MpO m k:=by
  obtain⟨l,hl,hv⟩:=h;exact⟨l,hl,fun a b hb=>by have:=hv a b hb; omega⟩
theorem Y6p {c:Q0} (hc:Ck c) {f:G5} (hf:c.fun_ = .some f) (hs:1≤f.scopes.length) {p:Pos} (hp:Pn p) (nm:List UInt8) (k:Int):Og Ep (P0 c p nm k) (fun x=>St c x.2):=by
  have hfn:=hc.fn;rw [hf] at hfn;have hfn:Fn f:=hfn;have hsl:=hfn.sl;have hle:=hfn.le;have hty:=hfn.ty;unfold P0;refine Og.step (x:=f) (by rw [hf]; rfl) ?_;rw [w64 (by omega),show ((f.scopes.length:Int) - 1)=((f.scopes.length - 1:Nat):Int) by omega];have hlt:f.scopes.length - 1 < f.scopes.length:=by omega
  refine Og.step (B6 hlt) ?_;obtain⟨l,hl,hv⟩:=hfn.sc _ (List.getElem_mem hlt);rw [hl];cases he:(D3 (some l) nm).isSome with
  | true=>rw [c1 (b:=true) rfl]; exact Q0g hp (by decide)
  | false =>
  rw [c0 (b:=false) rfl]
  by_cases h2:f.slots.length=200
  · rw [c1 (by rw [h2]; rfl)]; exact Q0g hp (by decide)
  rw [c0 (beq_eq_false_iff_ne.2 (by omega)),Option.bind_some];obtain⟨s,hsl2⟩:=Y8t (c := {c with fun_:=(O3.some ({f with scopes:=List.set f.scopes (Int.toNat ((f.scopes.length - 1:Nat):Int)) (some (Q7t l nm (List.length f.slots:Int)))}))}) hc.tab nm k;refine Og.step hsl2 ?_;refine Og.step (P4 (by simp; omega)) ?_;refine Og.step (P4 (by simp; omega)) ?_;refine Og.ok ⟨rfl,⟨hc.tab,hc.gl,hc.co,?_,hc.gn,hc.cn,hc.ug,hc.uc,hc.lg,hc.lc⟩,Gr.refl _,f,_,hf,rfl,by simp⟩
  change Fn _
  refine⟨by simp; omega,by simp; omega,?_,by simp; omega⟩;intro m hm
  dsimp only at hm ⊢
  rw [List.length_append]
  rcases Y3w hm with hm | rfl
  · exact(hfn.sc m hm).mono (by simp)
  · refine⟨_,rfl,fun a b hb => ?_⟩;rw [mGet_set] at hb
    split at hb
    · cases hb; simp; omega
    · have:=hv a b hb; simp; omega
theorem Y8e {c:Q0} (hc:Ck c) {x:Z8} (hx:OkX x):Og Ep (P1 c x) (fun y=>Tg c y.2 ∧ ∃ t,y.1=⟨1,[t],[],false,[],[],[],0⟩∧Dp (6 * wE x) t):=by
  unfold P1
  dsimp only [jn]
  have px:=Q2e x;refine Og.bind (expr_any hc hx) (fun y1 a1 => ?_) (fun e he=>Og.err he);have fin : ∀(v:Z7) (c' : Q0),Tg c c' → Dp (6 * wE x) v.term→Og Ep (some (Except.ok (ε := Z3×Q0) ((⟨1,([v.term]:List Y4),[],false,[],[],[],0⟩:U6),({c' with t:=c'.t} : Q0)))) (fun y=>Tg c y.2 ∧ ∃ t,y.1=⟨1,[t],[],false,[],[],[],0⟩∧Dp (6 * wE x) t):=fun v c' h d=>Og.ok ⟨h,_,rfl,d⟩;have d1:=a1.2.mono (show 6 * wE x - 2≤6 * wE x by omega);cases y1.1.lies with
  | false=>exact fin _ _ a1.1 d1
  | true =>
    rw [c1 (b:=true) rfl];obtain⟨b,hb⟩:=Z1g y1.2.t y1.1.n;refine Og.step hb ?_;cases b with
    | false=>exact fin _ _ a1.1 d1
    | true =>
      rw [c1 (b:=true) rfl];refine Og.bind (X0f a1.1.tab hx.pn a1.2) (fun y3 a3 => ?_) (fun e he=>Og.err he);rw [a3.1.back];exact fin _ _ (a1.1.trans a3.1) (a3.2.mono (by omega))
theorem one_g {c:Q0} (hc:Ck c) (k:Int) {x:Z8} (hx:OkX x):Og Ep (A4 c k x) (fun y=>Tg c y.2 ∧ ∃ t,y.1=⟨k,[t],[],false,[],[],[],0⟩∧Dp (6 * wE x) t):=by
  unfold A4;exact Og.bind (Y6y hc hx) (fun y1 a1=>Og.ok ⟨a1.1,_,rfl,a1.2⟩) (fun e he=>Og.err he)
structure Al (a:U6):Prop where
  A:a.A.length≤1000000000
  P:a.Post.length≤1000000000
  b:a.Body.length≤1000000000
  e:a.Else.length≤1000000000
  c:a.Cases.length≤1000000000
  cb : ∀ c ∈ a.Cases,c.Body.length≤1000000000
inductive Ad:Nat→U6→Prop
  | mk {n:Nat} {a:U6} (A : ∀ t ∈ a.A,Dp 70000 t) (P : ∀ t ∈ a.Post,Dp 70000 t) (b : ∀ x ∈ a.Body,Ad n x) (e : ∀ x ∈ a.Else,Ad n x) (c : ∀ c ∈ a.Cases,∀ x ∈ c.Body,Ad n x) (l:Al a):Ad (n+1) a
theorem Ad.mono {n:Nat} {a:U6} (h:Ad n a) : ∀ {m:Nat},n≤m→Ad m a:=by
  induction h with
  | @mk n a A P b e c l ib ie ic =>
    intro m hm;obtain⟨k,rfl⟩ : ∃ k,m=k+1:=⟨m - 1,by omega⟩;exact .mk A P (fun x hx=>ib x hx (by omega)) (fun x hx=>ie x hx (by omega)) (fun q hq x hx=>ic q hq x hx (by omega)) l
theorem P5 {α : Type} {p : α → Prop} : ∀ x ∈ ([]:List α),p x:=fun x h=>by cases h
theorem Ad.flat {n:Nat} (hn:1≤n) {k:Int} {A:List Y4} {f:Bool} {v:Int} (hA : ∀ t ∈ A,Dp 70000 t) (hl:A.length≤1000000000:=by simp):Ad n ⟨k,A,[],f,[],[],[],v⟩:=Ad.mono (n:=1) (.mk (n:=0) hA P5 P5 P5 (fun c h=>by cases h) ⟨hl,by simp,by simp,by simp,by simp,fun c h=>by cases h⟩) hn
theorem answer_g {c:Q0} (hc:Ck c) {f:G5} (hf:c.fun_ = .some f) {s:U0} (hp:Pn s.Pos) (hA : ∀ x ∈ s.A,OkX x):Og Ep (H9 c s) (fun y=>Tg c y.2∧Ad 1 y.1):=by
  unfold H9
  by_cases h0:s.A = []
  · rw [c1 (by rw [h0]; rfl)];refine Og.step (x:=f) (by rw [hf]; rfl) ?_;cases(f.ret != 0) with
    | true=>rw [c1 (b:=true) rfl]; exact Q0g hp (by decide)
    | false=>exact Og.ok ⟨Tg.refl hc.tab,Ad.flat (Nat.le_refl _) P5⟩
  · have hl:1≤s.A.length:=List.length_pos_iff.2 h0;rw [c0 (beq_eq_false_iff_ne.2 (by omega))];have hx:=hA s.A[0] (List.getElem_mem hl);have hw:=hx.w;have px:=Q2e s.A[0];refine Og.step (show idx s.A 0=some s.A[0] from B6 (k:=0) hl) ?_;refine Og.bind (Z9l hc hx) (fun y2 a2 => ?_) (fun e he=>Og.err he);have hf2:y2.2.fun_ = .some f:=by rw [a2.1.fun_eq]; exact hf
    refine Og.step (x:=f) (by rw [hf2]; rfl) ?_;cases(f.ret == 0) with
    | true=>rw [c1 (b:=true) rfl]; exact Q0g hx.pn (by decide)
    | false =>
      rw [c0 (b:=false) rfl];refine Og.bind (Y9i (c := {y2.2 with fun_:=(O3.some f)}) a2.1.tab hx.pn (n:=6 * wE s.A[0]) (by omega) a2.2 f.ret) (fun y4 a4 => ?_) (fun e he=>Og.err he);exact Og.ok ⟨a2.1,Ad.flat (Nat.le_refl _) (fun t ht=>by rw [List.mem_singleton.1 ht]; exact a4.mono (by omega))⟩
theorem X0c {c:Q0} (h:Tab c.t) {a b:Y4} {k:Int} {l:List U6} (ha:Dp 69999 a) (hb:Dp 69999 b) (hl : ∀ x ∈ l,Ad 1 x) (hn:l.length≤1000000) : ∃ r,I8 a b c k l=some r∧(∀ x ∈ r,Ad 1 x)∧r.length=l.length+1:=by
  unfold I8
  dsimp only [jn]
  obtain⟨p,hp⟩:=S8 h k;rw [Q4r,Option.bind_some,hp,Option.bind_some,P4 (by simp; omega),Option.bind_some,B6 (show l.length < (l ++ [(⟨0,[],[],false,[],[],[],0⟩:U6)]).length by simp),Option.bind_some];refine⟨_,rfl,fun x hx => ?_,by simp⟩
  rcases Y3w hx with hx | rfl
  · rcases List.mem_append.1 hx with hx | hx
    · exact hl x hx
    · rw [List.mem_singleton.1 hx]; exact Ad.flat (Nat.le_refl _) P5
  · exact Ad.flat (Nat.le_refl _) (fun t ht=>by rw [List.mem_singleton.1 ht]; exact Dp.k2 rfl ha hb (by omega))
theorem St.step {a b c:Q0} (h:St a b) (g:Tg b c):St a c:=by
  obtain⟨f,f',h1,h2,h3⟩:=h.fn;exact h.trans (St.of h.ck g h2)
theorem len_any {t:Z6} (h:Tab t) {n:Int} (h4:(tyT t n).1.Kind=4):(tyT t n).1.Len≤32768:=by
  unfold tyT at h4 ⊢;cases hx:idx t.list n with
  | none=>rw [hx] at h4; exact absurd h4 (by decide)
  | some x =>
    rw [hx] at h4
    have hm:x ∈ t.list:=by
      obtain⟨a,b,d⟩:=Q0u hx;exact List.mem_of_getElem? d
    have hk:=h.k x hm;obtain⟨l1,e,he,he1,he2⟩:=hk.arr h4;have hs:=hk.sz
    dsimp only
    have h5:x.Type_.Len * 1≤x.Type_.Len * e.size:=Int.mul_le_mul_of_nonneg_left he1 (by omega);omega
theorem X0b {c:Q0} (hc:Ck c) {f:G5} (hf:c.fun_ = .some f) (hs:1≤f.scopes.length) {v:F2} (hv:OkV v) (hd:v.Dims.length≤5000) (hx : ∀ x ∈ v.Init,wE x≤10000) (hl:v.Init.length≤5000):Og Ep (P9 c v) (fun y=>St c y.2∧(∀ x ∈ y.1,Ad 1 x)∧y.1.length≤40000):=by
  unfold P9
  dsimp only [jn]
  refine Og.bind (X1b hc.tab hv hd) (fun y1 a1 => ?_) (fun e he=>Og.err he);rw [a1.1.back];have hf1:y1.2.fun_ = .some f:=by rw [a1.1.fun_eq]; exact hf
  refine Og.bind (Y6p (hc.tg a1.1) hf1 hs hv.pos v.Name y1.1) (fun y2 a2 => ?_) (fun e he=>Og.err he);have st:=(St.of hc a1.1 hf).trans a2;have tb:=st.ck.tab;refine Og.step (Y3v tb _) ?_;refine Og.step (Z4i tb _) ?_;refine Og.bind (X1k tb hv y1.1) (fun l hi => ?_) (fun e he=>Og.err he)
  have hll:l.length≤5000:=by
    rcases hi.1 with h | h
    · rw [h]; simp
    · rw [h]; exact hl
  have hox : ∀ x ∈ l,OkX x:=by
    intro x hm
    rcases hi.1 with h | h
    · rw [h] at hm; cases hm
    · rw [h] at hm; exact⟨hv.init x hm,hx x hm⟩
  have a9 : ∀ x ∈ ([(⟨9,[],[],false,[],[],[],y2.1⟩:U6)]:List U6),Ad 1 x:=fun x hx=>by rw [List.mem_singleton.1 hx]; exact Ad.flat (Nat.le_refl _) P5
  have dv:Dp 69998 (⟨2,0,0,y2.1,false,0,false,true,[]⟩:Y4):=Dp.k0 rfl (by decide)
  by_cases h0:l = []
  · rw [c1 (by rw [h0]; rfl)];exact Og.ok ⟨st,a9,by simp⟩
  have hl1:1≤l.length:=List.length_pos_iff.2 h0;rw [c0 (beq_eq_false_iff_ne.2 (by omega))]
  by_cases h4:(tyT y2.2.t y1.1).1.Kind=4
  · rw [c0 (by rw [h4]; rfl)];have hlen:=len_any tb h4;refine Og.loop (fun s=>(0≤s.1∧s.1≤32768)∧(∀ x ∈ s.2.1,Ad 1 x)∧(s.2.1.length:Int)=s.1+1∧St c {s.2.2.1 with t:=s.2.2.2}) (fun s=>40000 - s.1.toNat) ⟨(by decide:(0:Int)≤0∧(0:Int)≤32768),a9,rfl,st⟩ (by dsimp only; omega) ?_;rintro⟨x11,x12,x13,x14⟩ ⟨i1,i2,i3,i4⟩
    dsimp only at i1 i2 i3 i4 ⊢
    by_cases hlt:x11 < (tyT y2.2.t y1.1).1.Len
    · rw [c1 (dt hlt)];obtain⟨p,hp⟩:=S8 i4.ck.tab (paT y2.2.t y1.1);refine Rn.step hp ?_;have di : ∀ s q,Dp 69999 (⟨14,1,0,0,false,s,false,q,[(⟨2,0,0,y2.1,false,0,false,true,[]⟩:Y4),(⟨1,0,IntKind.wrap .u32 x11,0,false,0,false,false,[]⟩:Y4)]⟩:Y4):=fun s q=>Dp.k2 (n:=1) rfl (Dp.k0 rfl (Nat.le_refl _)) (Dp.k0 rfl (Nat.le_refl _)) (by decide)
      by_cases hll2:x11 < l.length
      · rw [c1 (dt hll2)];obtain⟨u,hu,hum⟩:=I6 ⟨i1.1,hll2⟩;have ou:=hox u hum;have how:=ou.w;have pu:=Q2e u;refine Rn.step hu ?_;refine Rn.step hu ?_;refine Rn.bindG (Z9l i4.ck ou) (fun y10 a10 => ?_) (fun e he=>Rn.ok (Og.err he));refine Rn.bindG (Z5g a10.1.tab ou.pn (n:=6 * wE u) (by omega) a10.2 _) (fun y11 a11 => ?_) (fun e he=>Rn.ok (Og.err he));have st2:=i4.step a10.1;obtain⟨s,q,hq⟩:=Z9q (c:=y10.2) st2.ck.tab (⟨2,0,0,y2.1,false,0,false,true,[]⟩:Y4) (⟨1,0,IntKind.wrap .u32 x11,0,false,0,false,false,[]⟩:Y4) (paT y2.2.t y1.1) 1;refine Rn.step hq ?_;obtain⟨r,hr,hr2,hr3⟩:=X0c (c:=y10.2) (k:=paT y2.2.t y1.1) st2.ck.tab (di s q) (a11.mono (show 6 * wE u≤69999 by omega)) i2 (by omega);refine Rn.step hr ?_;exact Rn.ok ⟨⟨by dsimp only; rw [w64 (by omega)]; omega,hr2,by dsimp only; rw [w64 (by omega),hr3]; omega,st2⟩,by dsimp only; rw [w64 (by omega)]; omega⟩
      · rw [c0 (df hll2)];obtain⟨s,q,hq⟩:=Z9q (c := {x13 with t:=x14}) i4.ck.tab (⟨2,0,0,y2.1,false,0,false,true,[]⟩:Y4) (⟨1,0,IntKind.wrap .u32 x11,0,false,0,false,false,[]⟩:Y4) (paT y2.2.t y1.1) 1;refine Rn.step hq ?_;obtain⟨r,hr,hr2,hr3⟩:=X0c (c := {x13 with t:=x14}) (k:=paT y2.2.t y1.1) (b:=(⟨1,0,0,0,false,0,false,p,[]⟩:Y4)) i4.ck.tab (di s q) (Dp.k0 rfl (by decide)) i2 (by omega);refine Rn.step hr ?_;exact Rn.ok ⟨⟨by dsimp only; rw [w64 (by omega)]; omega,hr2,by dsimp only; rw [w64 (by omega),hr3]; omega,i4⟩,by dsimp only; rw [w64 (by omega)]; omega⟩
    · rw [c0 (df hlt)];exact Rn.ok (Og.ok ⟨i4,i2,by dsimp only; omega⟩)
  · rw [c1 (by simpa using h4)];have hxx:=hox l[0] (List.getElem_mem hl1);have hw:=hxx.w;have px:=Q2e l[0];have hid:idx l 0=some l[0]:=B6 (k:=0) hl1;refine Og.step hid ?_;refine Og.step hid ?_;refine Og.bind (Z9l st.ck hxx) (fun y6 a6 => ?_) (fun e he=>Og.err he);refine Og.bind (Z5g a6.1.tab hxx.pn (n:=6 * wE l[0]) (by omega) a6.2 y1.1) (fun y7 a7 => ?_) (fun e he=>Og.err he);obtain⟨r,hr,hr2,hr3⟩:=X0c (a:=(⟨2,0,0,y2.1,false,0,false,true,[]⟩:Y4)) (b:=y7) (k:=paT y2.2.t y1.1) a6.1.tab (dv.mono (by decide)) (a7.mono (by omega)) a9 (by simp);exact Og.step hr (Og.ok ⟨st.step a6.1,hr2,by rw [hr3]; simp⟩)
structure OkY (x:U0):Prop where
  s:OkS x
  w:wS x≤5000
def QA (c:Q0) (n:Nat) (y:List U6×Q0):Prop:=St c y.2∧(∀ x ∈ y.1,Ad n x)∧y.1.length≤40000 * n
def Sc (c:Q0) (k:Nat):Prop := ∃ f,c.fun_ = .some f∧1≤f.scopes.length∧f.scopes.length+k≤90000
theorem St.refl {c:Q0} (h:Ck c) {f:G5} (hf:c.fun_ = .some f):St c c:=St.of h (Tg.refl h.tab) hf
theorem Sc.st {c c' : Q0} {k:Nat} (h:Sc c k) (g:St c c'):Sc c' k:=by
  obtain⟨f,hf,h1,h2⟩:=h;obtain⟨a,b,ha,hb,hl⟩:=g.fn;rw [hf] at ha;cases ha;exact⟨b,hb,by omega,by omega⟩
theorem block_st {c c' : Q0} {f f' : G5} (hf:c.fun_ = .some f) (g:St {c with fun_:=(O3.some ({f with scopes:=f.scopes ++ [(some [])]}))} c') (hf' : c'.fun_ = .some f') {s:List (Option (List (List UInt8×Int)))} (hs:s=f'.scopes.take (f'.scopes.length - 1)) (hl:f'.scopes.length=f.scopes.length+1):St c {c' with fun_:=(O3.some ({f' with scopes:=s}))} := by
  have hk:=g.ck;have hfn:=hk.fn;rw [hf'] at hfn;have hfn:Fn f' := hfn;refine⟨?_,⟨hk.tab,hk.gl,hk.co,?_,hk.gn,hk.cn,hk.ug,hk.uc,hk.lg,hk.lc⟩,g.gr,f,_,hf,rfl,by dsimp only; rw [hs,List.length_take]; omega⟩
  · have e:=g.eq
    dsimp only
    rw [e]
  · change Fn _
    refine⟨hfn.ty,hfn.le,fun m hm => ?_,by dsimp only; rw [hs,List.length_take]; have:=hfn.sl; omega⟩
    dsimp only at hm
    rw [hs] at hm;exact hfn.sc m (List.mem_of_mem_take hm)
theorem Ck.scope {c:Q0} (h:Ck c) {f:G5} (hf:c.fun_ = .some f) (hl:f.scopes.length+1≤90000):Ck {c with fun_:=(O3.some ({f with scopes:=f.scopes ++ [(some [])]}))} := by
  have hfn:=h.fn;rw [hf] at hfn;have hfn:Fn f:=hfn;refine⟨h.tab,h.gl,h.co,?_,h.gn,h.cn,h.ug,h.uc,h.lg,h.lc⟩
  change Fn _
  refine⟨hfn.ty,hfn.le,fun m hm => ?_,by simp; omega⟩
  rcases List.mem_append.1 hm with hm | hm
  · exact hfn.sc m hm
  · rw [List.mem_singleton.1 hm];exact⟨[],rfl,fun a b hb=>by cases hb⟩
theorem Ck.loops {c:Q0} (h:Ck c) {f:G5} (hf:c.fun_ = .some f) (a b:Int):Ck {c with fun_:=(O3.some ({f with loops:=a,breaks:=b}))} := by
  have hfn:=h.fn;rw [hf] at hfn;have hfn:Fn f:=hfn;exact⟨h.tab,h.gl,h.co,(⟨hfn.ty,hfn.le,hfn.sc,hfn.sl⟩:Fn {f with loops:=a,breaks:=b}),h.gn,h.cn,h.ug,h.uc,h.lg,h.lc⟩
theorem Z0i {α : Type} (w : α → Nat) {l:List α} {x : α} (h:x ∈ l):w x≤sm w l:=by
  obtain⟨s,t,e⟩:=List.append_of_mem h;rw [e,Q1t,Q7k];omega
theorem sm_take {α : Type} (w : α → Nat) {l:List α} {k:Nat} (h:k < l.length):sm w (l.take (k+1))=sm w (l.take k)+w l[k]:=by
  rw [List.take_succ_eq_append_getElem h,Q1t,Q7k]
  simp [sm]
theorem Y4j {α : Type} (w : α → Nat) (l:List α) (k:Nat):sm w (l.take k)≤sm w l:=by
  have:=Q1t w (l.take k) (l.drop k);rw [List.take_append_drop] at this;omega
theorem X1u {α : Type} {b:List α} {n:Nat} (h:n≤b.length):sub b 0 (n:Int)=some (b.take n):=by
  unfold sub;rw [if_pos (by omega)]
  simp
theorem OkY.A {x:U0} (h:OkY x) : ∀ y ∈ x.A,OkX y:=fun y hy=>⟨match h.s with | .mk a _ _ _ _ _ _ _ _ _=>a y hy,by have:=Z0i wE hy; have:=Z8c x; have:=h.w; omega⟩
theorem OkY.B {x:U0} (h:OkY x) : ∀ y ∈ x.B,OkX y:=fun y hy=>⟨match h.s with | .mk _ a _ _ _ _ _ _ _ _=>a y hy,by have:=Z0i wE hy; have:=Z8c x; have:=h.w; omega⟩
theorem OkY.C {x:U0} (h:OkY x) : ∀ y ∈ x.C,OkX y:=fun y hy=>⟨match h.s with | .mk _ _ a _ _ _ _ _ _ _=>a y hy,by have:=Z0i wE hy; have:=Z8c x; have:=h.w; omega⟩
theorem OkY.V {x:U0} (h:OkY x) : ∀ y ∈ x.Var,OkV y∧y.Dims.length≤5000∧(∀ z ∈ y.Init,wE z≤10000)∧y.Init.length≤5000:=fun y hy=>by
  have h1:=Z0i wV hy
  have h2:=Z8c x
  have h3:=h.w
  have h5:wV y=1+y.Type_.Stars.toNat+y.Dims.length+sm wE y.Init:=rfl
  have h4:=W6 Q2e y.Init
  exact⟨match h.s with | .mk _ _ _ a _ _ _ _ _ _=>a y hy,by omega,fun z hz=>by have:=Z0i wE hz; omega,by omega⟩
theorem OkY.body {x:U0} (h:OkY x) : ∀ y ∈ x.Body,OkS y:=match h.s with | .mk _ _ _ _ a _ _ _ _ _=>a
theorem OkY.els {x:U0} (h:OkY x) : ∀ y ∈ x.Else,OkS y:=match h.s with | .mk _ _ _ _ _ a _ _ _ _=>a
theorem OkY.cases {x:U0} (h:OkY x) : ∀ c ∈ x.Cases,(∀ y ∈ c.Body,OkS y)∧Pn c.Pos:=fun c hc=>⟨match h.s with | .mk _ _ _ _ _ _ a _ _ _=>a c hc,match h.s with | .mk _ _ _ _ _ _ _ _ _ a=>a c hc⟩
theorem OkY.pn {x:U0} (h:OkY x):Pn x.Pos:=match h.s with | .mk _ _ _ _ _ _ _ a _ _=>a
theorem OkY.sa {x:U0} (h:OkY x):Sa x.Kind x.A.length x.Var.length:=match h.s with | .mk _ _ _ _ _ _ _ _ a _=>a
theorem Sc.mono {c:Q0} {j k:Nat} (h:Sc c j) (hk:k≤j):Sc c k:=by
  obtain⟨f,a,b,d⟩:=h;exact⟨f,a,b,by omega⟩
theorem St.loops {c c' : Q0} {f f' : G5} (hf:c.fun_ = .some f) {a b:Int} (g:St {c with fun_:=(O3.some ({f with loops:=a,breaks:=b}))} c') (hf' : c'.fun_ = .some f') (a' b' : Int):St c {c' with fun_:=(O3.some ({f' with loops:=a',breaks:=b' }))} := by
  obtain⟨k,k',h1,h2,h3⟩:=g.fn;cases h1;rw [hf'] at h2;cases h2;refine⟨?_,g.ck.loops hf' a' b',g.gr,f,_,hf,rfl,h3⟩;have e:=g.eq
  dsimp only
  rw [e]
structure S6 (n:Nat):Prop where
  block : ∀ c l,Ck c→(∀ y ∈ l,OkS y)→sm wS l≤5000→Sc c (sm wS l+1)→5 * sm wS l+3≤n→Og Ep ((Q8h n).X7 c l) (QA c (2 * sm wS l))
  looped : ∀ c l,Ck c→(∀ y ∈ l,OkS y)→sm wS l≤5000→Sc c (sm wS l+1)→5 * sm wS l+4≤n→Og Ep ((Q8h n).U2 c l) (QA c (2 * sm wS l))
  around : ∀ c x,Ck c→OkY x→Sc c (wS x)→5 * wS x≤n→Og Ep ((Q8h n).J7 c x) (QA c (2 * wS x - 1))
  choose : ∀ c x,Ck c→OkY x→Sc c (wS x)→1≤x.A.length→5 * wS x≤n→Og Ep ((Q8h n).J6 c x) (fun y=>St c y.2∧Ad (2 * wS x - 1) y.1)
  stmt : ∀ c x,Ck c→OkY x→Sc c (wS x)→5 * wS x+1≤n→Og Ep ((Q8h n).F6 c x) (QA c (2 * wS x))
  acts : ∀ c l,Ck c→(∀ y ∈ l,OkS y)→sm wS l≤5000→Sc c (sm wS l)→5 * sm wS l+2≤n→Og Ep ((Q8h n).K1 c l) (QA c (2 * sm wS l))
theorem block_s6 {n:Nat} (h:S6 n) : ∀ c l,Ck c→(∀ y ∈ l,OkS y)→sm wS l≤5000→Sc c (sm wS l+1)→5 * sm wS l+3≤n+1→Og Ep ((Q8h (n+1)).X7 c l) (QA c (2 * sm wS l)):=by
  intro c l hc hl hw hs hn;show Og Ep (M8 (Q8h n) c l) _;unfold M8;obtain⟨f,hf,h1,h2⟩:=hs;refine Og.step (x:=f) (by rw [hf]; rfl) ?_;refine Og.step (P4 (by omega)) ?_;refine Og.bind (h.acts _ l (hc.scope hf (by omega)) hl hw ⟨_,rfl,by simp,by simp; omega⟩ (by omega)) (fun y a => ?_) (fun e he=>Og.err he);obtain⟨a1,a2,a3⟩:=a;obtain⟨g,g',e1,e2,e3⟩:=a1.fn;cases e1;refine Og.step (x:=g') (by rw [e2]; rfl) ?_;rw [List.length_append,List.length_singleton] at e3;refine Og.step (x:=g'.scopes.take (g'.scopes.length - 1)) (by rw [w64 (by omega),show ((g'.scopes.length:Int) - 1)=((g'.scopes.length - 1:Nat):Int) by omega]; exact X1u (by omega)) ?_;exact Og.ok ⟨block_st hf a1 e2 rfl e3,a2,a3⟩
theorem X2g {n:Nat} (h:S6 n) : ∀ c l,Ck c→(∀ y ∈ l,OkS y)→sm wS l≤5000→Sc c (sm wS l+1)→5 * sm wS l+4≤n+1→Og Ep ((Q8h (n+1)).U2 c l) (QA c (2 * sm wS l)):=by
  intro c l hc hl hw hs hn;show Og Ep (N2 (Q8h n) c l) _;unfold N2;obtain⟨f,hf,h1,h2⟩:=hs;refine Og.step (x:=f) (by rw [hf]; rfl) ?_;refine Og.bind (h.block _ l (hc.loops hf _ _) hl hw ⟨_,rfl,h1,h2⟩ (by omega)) (fun y a => ?_) (fun e he=>Og.err he);obtain⟨a1,a2,a3⟩:=a;obtain⟨g,g',e1,e2,e3⟩:=a1.fn;refine Og.step (x:=g') (by rw [e2]; rfl) ?_;exact Og.ok ⟨St.loops hf a1 e2 _ _,a2,a3⟩
theorem acts_s6 {n:Nat} (h:S6 n) : ∀ c l,Ck c→(∀ y ∈ l,OkS y)→sm wS l≤5000→Sc c (sm wS l)→5 * sm wS l+2≤n+1→Og Ep ((Q8h (n+1)).K1 c l) (QA c (2 * sm wS l)):=by
  intro c l hc hl hw hs hn;show Og Ep (I0 (Q8h n) c l) _;unfold I0;have hll:=W6 Z4r l;obtain⟨f,hf,_⟩:=id hs;refine Og.loop (fun s=>0≤s.2.1∧s.2.1≤l.length∧(∀ x ∈ s.1,Ad (2 * sm wS l) x)∧s.1.length≤80000 * sm wS (l.take s.2.1.toNat)∧St c {s.2.2.1 with t:=s.2.2.2}) (fun s=>l.length - s.2.1.toNat) ⟨Int.le_refl 0,by dsimp only; omega,P5,by simp,St.refl hc hf⟩ (by dsimp only; omega) ?_;rintro⟨x1,x11,x12,x13⟩ ⟨i1,i2,i3,i4,i5⟩
  dsimp only at i1 i2 i3 i4 i5 ⊢
  obtain⟨k,rfl⟩:=Int.eq_ofNat_of_zero_le i1;rw [Int.toNat_natCast] at i4
  by_cases hlt:k < l.length
  · rw [c1 (dlt hlt)];have hm:=List.getElem_mem hlt;have h1:=Z0i wS hm;have h2:=sm_take wS hlt;have h3:=Y4j wS l (k+1);refine Rn.step (B6 hlt) ?_;refine Rn.bindG (h.stmt _ l[k] i5.ck ⟨hl _ hm,by omega⟩ (Sc.st (Sc.mono hs h1) i5) (by omega)) (fun y a => ?_) (fun e he=>Rn.ok (Og.err he));obtain⟨a1,a2,a3⟩:=a;refine Rn.step (P4 (by omega)) ?_;refine Rn.ok ⟨⟨by dsimp only; rw [w64 (by omega)]; omega,by dsimp only; rw [w64 (by omega)]; omega,fun x hx => ?_,?_,i5.trans a1⟩,by dsimp only; rw [w64 (by omega)]; omega⟩
    · rcases List.mem_append.1 hx with hx | hx
      · exact i3 x hx
      · exact(a2 x hx).mono (by omega)
    · dsimp only
      rw [w64 (by omega),show ((k:Int)+1)=((k+1:Nat):Int) by omega,Int.toNat_natCast,h2,List.length_append];omega
  · rw [c0 (df (by omega))];have h3:=Y4j wS l k;exact Rn.ok (Og.ok ⟨i5,i3,by dsimp only; omega⟩)
structure Fa (a:U6):Prop where
  A : ∀ t ∈ a.A,Dp 70000 t
  P : ∀ t ∈ a.Post,Dp 70000 t
  b:a.Body = []
  e:a.Else = []
  c:a.Cases = []
  l:a.Post.length≤1
theorem X2y {n:Nat} (h:S6 n) : ∀ c x,Ck c→OkY x→Sc c (wS x)→5 * wS x≤n+1→Og Ep ((Q8h (n+1)).J7 c x) (QA c (2 * wS x - 1)):=by
  intro c x hc hx hs hn;show Og Ep (N6 (Q8h n) c x) _;unfold N6;have hw:=Z8c x;have hww:=hx.w;have lA:=W6 Q2e x.A;have lB:=W6 Q2e x.B;have lC:=W6 Q2e x.C;obtain⟨f,hf,_⟩:=id hs;refine Og.loop (fun s=>0≤s.2.1∧s.2.1≤x.A.length∧(∀ y ∈ s.1,Ad 1 y)∧s.1.length≤s.2.1∧Tg c {s.2.2.1 with t:=s.2.2.2}) (fun s=>x.A.length - s.2.1.toNat) ⟨Int.le_refl 0,by dsimp only; omega,P5,by simp,Tg.refl hc.tab⟩ (by dsimp only; omega) ?_;rintro⟨x1,x11,x12,x13⟩ ⟨i1,i2,i3,i4,i5⟩
  dsimp only at i1 i2 i3 i4 i5 ⊢
  by_cases hlt:x11 < x.A.length
  · rw [c1 (dt hlt)];obtain⟨u,hu,hum⟩:=I6 ⟨i1,hlt⟩;have ou:=hx.A u hum;have uw:=ou.w;refine Rn.step hu ?_;refine Rn.bindG (Y8e (hc.tg i5) ou) (fun y a => ?_) (fun e he=>Rn.ok (Og.err he));obtain⟨a1,t,a2,a3⟩:=a;refine Rn.step (P4 (by simp; omega)) ?_;refine Rn.ok ⟨⟨by dsimp only; rw [w64 (by omega)]; omega,by dsimp only; rw [w64 (by omega)]; omega,fun z hz => ?_,by dsimp only; rw [w64 (by omega),List.length_append]; simp; omega,i5.trans a1⟩,by dsimp only; rw [w64 (by omega)]; omega⟩
    rcases List.mem_append.1 hz with hz | hz
    · exact i3 z hz
    · rw [List.mem_singleton.1 hz,a2];exact Ad.flat (Nat.le_refl _) (fun t ht=>by rw [List.mem_singleton.1 ht]; exact a3.mono (by omega))
  rw [c0 (df hlt)];refine Rn.ok ?_;show Og Ep ((loopM _ NN _).bind _) _
  clear hlt
  refine Og.loop (fun s=>0≤s.1∧s.1≤x.B.length∧Fa s.2.1∧s.2.1.A.length≤s.1∧Tg c {s.2.2.1 with t:=s.2.2.2}) (fun s=>x.B.length - s.1.toNat) ⟨Int.le_refl 0,by dsimp only; omega,⟨P5,P5,rfl,rfl,rfl,by simp⟩,by simp,i5⟩ (by dsimp only; omega) ?_
  clear i5
  rintro⟨x24,x25,x26,x27⟩ ⟨j1,j2,j3,j4,j5⟩
  dsimp only at j1 j2 j3 j4 j5 ⊢
  by_cases hlt:x24 < x.B.length
  · rw [c1 (dt hlt)];obtain⟨u,hu,hum⟩:=I6 ⟨j1,hlt⟩;have ou:=hx.B u hum;have uw:=ou.w;refine Rn.step hu ?_;refine Rn.bindG (Y6y (hc.tg j5) ou) (fun y a => ?_) (fun e he=>Rn.ok (Og.err he));refine Rn.step (P4 (by simp; omega)) ?_;refine Rn.ok ⟨⟨by dsimp only; rw [w64 (by omega)]; omega,by dsimp only; rw [w64 (by omega)]; omega,⟨fun z hz => ?_,j3.P,j3.b,j3.e,j3.c,j3.l⟩,by dsimp only; rw [w64 (by omega),List.length_append]; simp; omega,j5.trans a.1⟩,by dsimp only; rw [w64 (by omega)]; omega⟩
    rcases List.mem_append.1 hz with hz | hz
    · exact j3.A z hz
    · rw [List.mem_singleton.1 hz];exact a.2.mono (by omega)
  rw [c0 (df hlt)];refine Rn.ok ?_;show Og Ep ((loopM _ NN _).bind _) _
  clear hlt
  refine Og.loop (fun s=>0≤s.1∧s.1≤x.C.length∧(Fa s.2.1∧s.2.1.A.length≤5000)∧Tg c {s.2.2.1 with t:=s.2.2.2}) (fun s=>x.C.length - s.1.toNat) ⟨Int.le_refl 0,by dsimp only; omega,⟨j3,by dsimp only; omega⟩,j5⟩ (by dsimp only; omega) ?_
  clear j5 j3 j4
  rintro⟨x38,x39,x40,x41⟩ ⟨k1,k2,⟨k3,k4⟩,k5⟩
  dsimp only at k1 k2 k3 k4 k5 ⊢
  by_cases hlt:x38 < x.C.length
  · rw [c1 (dt hlt)];obtain⟨u,hu,hum⟩:=I6 ⟨k1,hlt⟩;have ou:=hx.C u hum;have uw:=ou.w;refine Rn.step hu ?_;refine Rn.bindG (Y8e (hc.tg k5) ou) (fun y a => ?_) (fun e he=>Rn.ok (Og.err he));obtain⟨a1,t,a2,a3⟩:=a;refine Rn.ok ⟨⟨by dsimp only; rw [w64 (by omega)]; omega,by dsimp only; rw [w64 (by omega)]; omega,⟨⟨k3.A,fun z hz => ?_,k3.b,k3.e,k3.c,by dsimp only; rw [a2]; simp⟩,k4⟩,k5.trans a1⟩,by dsimp only; rw [w64 (by omega)]; omega⟩
    dsimp only at hz
    rw [a2,List.mem_singleton] at hz;rw [hz];exact a3.mono (by omega)
  rw [c0 (df hlt)];refine Rn.ok ?_;show Og Ep (((Q8h n).U2 _ _).bind _) _;have st:=St.of hc k5 hf;refine Og.bind (h.looped _ x.Body st.ck hx.body (by omega) (Sc.mono (Sc.st hs st) (by omega)) (by omega)) (fun y a => ?_) (fun e he=>Og.err he);obtain⟨a1,a2,a3⟩:=a;refine Og.step (P4 (by simp; omega)) ?_;refine Og.ok ⟨st.trans a1,fun z hz => ?_,by simp; omega⟩
  rcases List.mem_append.1 hz with hz | hz
  · exact(i3 z hz).mono (by omega)
  · rw [List.mem_singleton.1 hz];exact Ad.mono (n:=2 * sm wS x.Body+1) (.mk (n:=2 * sm wS x.Body) (a := {x39 with Body:=y.1}) k3.A k3.P a2 (by dsimp only; rw [k3.e]; exact P5) (by dsimp only; rw [k3.c]; exact P5) ⟨by dsimp only; omega,by have:=k3.l; dsimp only; omega,by dsimp only; omega,by dsimp only; rw [k3.e]; simp,by dsimp only; rw [k3.c]; simp,by dsimp only; rw [k3.c]; exact P5⟩) (by omega)
theorem X2o {n:Nat} (h:S6 n) : ∀ c x,Ck c→OkY x→Sc c (wS x)→1≤x.A.length→5 * wS x≤n+1→Og Ep ((Q8h (n+1)).J6 c x) (fun y=>St c y.2∧Ad (2 * wS x - 1) y.1):=by
  intro c x hc hx hs hA hn;show Og Ep (N3 (Q8h n) c x) _;unfold N3
  dsimp only [jn]
  have hw:=Z8c x;have hww:=hx.w;have lC:=W6 X0a x.Cases;obtain⟨f,hf,hs1,hs2⟩:=id hs;have ou:=hx.A x.A[0] (List.getElem_mem hA);have uw:=ou.w;refine Og.step (show idx x.A 0=some x.A[0] from B6 (k:=0) hA) ?_;refine Og.bind (X0n hc ou) (fun y a => ?_) (fun e he=>Og.err he);have hfy:y.2.fun_ = .some f:=by rw [a.1.fun_eq]; exact hf
  refine Og.step (x:=f) (by rw [hfy]; rfl) ?_;have ck1:Ck {y.2 with fun_:=(O3.some ({f with breaks:=IntKind.wrap .i64 (f.breaks+1)}))} := (hc.tg a.1).loops hfy f.loops _;have st0:=St.of hc a.1 hf;refine Og.loop (fun s=>0≤s.2.2.1∧s.2.2.1≤x.Cases.length∧(∃ m,s.1=some m)∧((∀ t ∈ s.2.2.2.1.A,Dp 70000 t)∧s.2.2.2.1.A.length≤1∧s.2.2.2.1.Post = []∧s.2.2.2.1.Body = []∧s.2.2.2.1.Else = [])∧(∀ q ∈ s.2.2.2.1.Cases,(∀ z ∈ q.Body,Ad (2 * wS x - 2) z)∧q.Body.length≤1000000000)∧s.2.2.2.1.Cases.length≤s.2.2.1∧St {y.2 with fun_:=(O3.some ({f with breaks:=IntKind.wrap .i64 (f.breaks+1)}))} {s.2.2.2.2.1 with t:=s.2.2.2.2.2}) (fun s=>x.Cases.length - s.2.2.1.toNat) ⟨Int.le_refl 0,by dsimp only; omega,⟨_,rfl⟩,⟨fun t ht=>by rw [List.mem_singleton.1 ht]; exact a.2.mono (by omega),by simp,rfl,rfl,rfl⟩,P5,by simp,St.refl ck1 rfl⟩ (by dsimp only; omega) ?_;rintro⟨x2,x13,x14,x15,x16,x17⟩ ⟨i1,i2,⟨m,i3⟩,i4,i5,i6,i7⟩
  dsimp only at i1 i2 i3 i4 i5 i6 i7 ⊢
  subst i3
  by_cases hlt:x14 < x.Cases.length
  · rw [c1 (dt hlt)];obtain⟨u,hu,hum⟩:=I6 ⟨i1,hlt⟩;have oc:=hx.cases u hum;have wc:=Z0i wC hum;have wc2:wC u=1+sm wS u.Body:=rfl;refine Rn.step hu ?_
    have go : ∀(m' : List (Int×Bool)) (b:Bool),Rn (((Q8h n).X7 {x16 with t:=x17} u.Body).bind fun y4=>exC y4 (fun y4=>(S0 (List.length x15.Cases+List.length ([{u with Body:=y4.1}]:List Q8c))).bind fun _=>some (Lp.go (some m',b,IntKind.wrap .i64 (x14+1),{x15 with Cases:=x15.Cases++([{u with Body:=y4.1}]:List Q8c)},y4.2,y4.2.t))) (fun e3=>some (Lp.ret (Except.error (e3.1,e3.2))))) (NxG (fun s=>0≤s.2.2.1∧s.2.2.1≤x.Cases.length∧(∃ m,s.1=some m)∧((∀ t ∈ s.2.2.2.1.A,Dp 70000 t)∧s.2.2.2.1.A.length≤1∧s.2.2.2.1.Post = []∧s.2.2.2.1.Body = []∧s.2.2.2.1.Else = [])∧(∀ q ∈ s.2.2.2.1.Cases,(∀ z ∈ q.Body,Ad (2 * wS x - 2) z)∧q.Body.length≤1000000000)∧s.2.2.2.1.Cases.length≤s.2.2.1∧St {y.2 with fun_:=(O3.some ({f with breaks:=IntKind.wrap .i64 (f.breaks+1)}))} {s.2.2.2.2.1 with t:=s.2.2.2.2.2}) (fun s=>x.Cases.length - s.2.2.1.toNat) (some m,x13,x14,x15,x16,x17) (fun o=>o.thn (fun(x2,x13,x14,x15,x16,x17)=>(O3.get x16.fun_).bind fun u10=>some (Except.ok (x15,{x16 with t:=x17,fun_:=(O3.some ({u10 with breaks:=IntKind.wrap .i64 (u10.breaks - 1)}))}))) (fun r=>some r)) Ep (fun y=>St c y.2∧Ad (2 * wS x - 1) y.1)):=by
      intro m' b;refine Rn.bindG (h.block _ u.Body i7.ck oc.1 (by omega) (Sc.mono (Sc.st (k:=wS x) ⟨{f with breaks:=IntKind.wrap .i64 (f.breaks+1)},rfl,hs1,hs2⟩ i7) (by omega)) (by omega)) (fun y4 a4 => ?_) (fun e he=>Rn.ok (Og.err he));obtain⟨a1,a2,a3⟩:=a4;refine Rn.step (P4 (by simp; omega)) ?_;refine Rn.ok ⟨⟨by dsimp only; rw [w64 (by omega)]; omega,by dsimp only; rw [w64 (by omega)]; omega,⟨_,rfl⟩,i4,fun q hq => ?_,by dsimp only; rw [w64 (by omega),List.length_append]; simp; omega,i7.trans a1⟩,by dsimp only; rw [w64 (by omega)]; omega⟩
      rcases List.mem_append.1 hq with hq | hq
      · exact i5 q hq
      · rw [List.mem_singleton.1 hq];exact⟨fun z hz=>(a2 z hz).mono (by omega),by dsimp only; omega⟩
    have er : ∀ {B:Type} (g:Unit→Option (Lp _ (Except (Z3×Q0) (U6×Q0)))),Rn ((Y6 u.Pos 6).bind fun y5=>exC y5 g (fun e4=>some (Lp.ret (Except.error (e4,{x16 with t:=x17}))))) (NxG (S:=Option (List (Int×Bool))×Bool×Int×U6×Q0×Z6) (fun s=>0≤s.2.2.1∧s.2.2.1≤x.Cases.length∧(∃ m,s.1=some m)∧((∀ t ∈ s.2.2.2.1.A,Dp 70000 t)∧s.2.2.2.1.A.length≤1∧s.2.2.2.1.Post = []∧s.2.2.2.1.Body = []∧s.2.2.2.1.Else = [])∧(∀ q ∈ s.2.2.2.1.Cases,(∀ z ∈ q.Body,Ad (2 * wS x - 2) z)∧q.Body.length≤1000000000)∧s.2.2.2.1.Cases.length≤s.2.2.1∧St {y.2 with fun_:=(O3.some ({f with breaks:=IntKind.wrap .i64 (f.breaks+1)}))} {s.2.2.2.2.1 with t:=s.2.2.2.2.2}) (fun s=>x.Cases.length - s.2.2.1.toNat) (some m,x13,x14,x15,x16,x17) (fun o=>o.thn (fun(x2,x13,x14,x15,x16,x17)=>(O3.get x16.fun_).bind fun u10=>some (Except.ok (x15,{x16 with t:=x17,fun_:=(O3.some ({u10 with breaks:=IntKind.wrap .i64 (u10.breaks - 1)}))}))) (fun r=>some r)) Ep (fun y=>St c y.2∧Ad (2 * wS x - 1) y.1)):=fun g=>fail_l oc.2 (by decide) (fun e he=>Og.err he);have er := @er Unit;cases hd:u.Default with
    | true =>
      simp only [hd] at go
      cases x13 with
      | true=>rw [c1 (b:=(true&&true)) rfl]; exact er _
      | false=>rw [c0 (b:=(true&&false)) rfl,c0 (b := !true) rfl,c1 (b:=true) rfl]; exact go m true
    | false =>
      simp only [hd] at go
      rw [c0 (b:=(false&&x13)) rfl,c1 (b := !false) rfl];cases(D3 (some m) u.Num).getD false with
      | true=>rw [c1 (b:=true) rfl]; exact er _
      | false =>
        rw [c0 (b:=false) rfl,c0 (b:=false) rfl];exact Rn.step (x:=m) rfl (go _ x13)
  · rw [c0 (df hlt)];refine Rn.ok ?_;obtain⟨k,k',e1,e2,e3⟩:=i7.fn;cases e1;show Og Ep ((O3.get x16.fun_).bind _) _
    dsimp only at e2
    refine Og.step (x:=k') (by rw [e2]; rfl) ?_;refine Og.ok ⟨st0.trans (St.loops hfy (a:=f.loops) i7 e2 k'.loops _),?_⟩;have e:2 * wS x - 1=(2 * wS x - 2)+1:=by omega
    rw [e];obtain⟨j1,j2,j3,j4,j5⟩:=i4;exact .mk j1 (by rw [j3]; exact P5) (by rw [j4]; exact P5) (by rw [j5]; exact P5) (fun q hq=>(i5 q hq).1) ⟨by dsimp only; omega,by rw [j3]; simp,by rw [j4]; simp,by rw [j5]; simp,by dsimp only; omega,fun q hq=>(i5 q hq).2⟩
theorem QA.one {c c' : Q0} {n:Nat} {a:U6} (h:St c c') (ha:Ad n a) (hn:1≤n):QA c n ([a],c'):=⟨h,fun x hx=>by rw [List.mem_singleton.1 hx]; exact ha,by simp; omega⟩
theorem at0 {α : Type} {l:List α} (h:1≤l.length) : ∃ y,idx l 0=some y∧y ∈ l:=⟨l[0],B6 (k:=0) h,List.getElem_mem h⟩
theorem stmt_s6 {n:Nat} (h:S6 n) : ∀ c x,Ck c→OkY x→Sc c (wS x)→5 * wS x+1≤n+1→Og Ep ((Q8h (n+1)).F6 c x) (QA c (2 * wS x)):=by
  intro c x hc hx hs hn;show Og Ep (A7 (Q8h n) c x) _;unfold A7;have hw:=Z8c x;have hww:=hx.w;have hsa:=hx.sa;have pw:=Z4r x;obtain⟨f,hf,hs1,hs2⟩:=id hs;have tg : ∀ {c'},Tg c c' → St c c' := fun g=>St.of hc g hf;have w1 : ∀ y ∈ x.A,6 * wE y≤70000:=fun y hy=>by have:=(hx.A y hy).w; omega
  by_cases k1:x.Kind=1
  · rw [c1 (by rw [k1]; rfl)];obtain⟨u,hu,hum⟩:=at0 (hsa.1 (.inl k1));have ou:=hx.A u hum;refine Og.step hu ?_;refine Og.bind (Y8e hc ou) (fun y a => ?_) (fun e he=>Og.err he);obtain⟨a1,t,a2,a3⟩:=a;exact Og.ok (QA.one (tg a1) (by rw [a2]; exact Ad.flat (by omega) (fun t ht=>by rw [List.mem_singleton.1 ht]; exact a3.mono (w1 u hum))) (by omega))
  rw [c0 (by simpa using k1)]
  by_cases k2:x.Kind=2
  · rw [c1 (by rw [k2]; rfl)];obtain⟨u,hu,hum⟩:=at0 (hsa.2 k2);obtain⟨v1,v2,v3,v4⟩:=hx.V u hum;refine Og.step hu ?_;refine Og.bind (X0b hc hf hs1 v1 v2 v3 v4) (fun y a => ?_) (fun e he=>Og.err he);exact Og.ok ⟨a.1,fun z hz=>(a.2.1 z hz).mono (by omega),by have:=a.2.2; dsimp only; omega⟩
  rw [c0 (by simpa using k2)]
  by_cases k3:x.Kind=3
  · rw [c1 (by rw [k3]; rfl)];obtain⟨u,hu,hum⟩:=at0 (hsa.1 (.inr (.inl k3)));refine Og.step hu ?_;refine Og.bind (one_g hc 2 (hx.A u hum)) (fun y a => ?_) (fun e he=>Og.err he);obtain⟨a1,t,a2,a3⟩:=a;have s1:=tg a1;refine Og.bind (h.block _ x.Body s1.ck hx.body (by omega) (Sc.mono (Sc.st hs s1) (by omega)) (by omega)) (fun y4 a4 => ?_) (fun e he=>Og.err he);have s2:=s1.trans a4.1;refine Og.bind (h.block _ x.Else s2.ck hx.els (by omega) (Sc.mono (Sc.st hs s2) (by omega)) (by omega)) (fun y5 a5 => ?_) (fun e he=>Og.err he);refine Og.ok (QA.one (s2.trans a5.1) ?_ (by omega));rw [a2];exact Ad.mono (n:=2 * (sm wS x.Body+sm wS x.Else)+1) (.mk (fun t ht=>by rw [List.mem_singleton.1 ht]; exact a3.mono (w1 u hum)) P5 (fun z hz=>(a4.2.1 z hz).mono (by omega)) (fun z hz=>(a5.2.1 z hz).mono (by omega)) P5 ⟨by simp,by simp,by have:=a4.2.2; dsimp only; omega,by have:=a5.2.2; dsimp only; omega,by simp,P5⟩) (by omega)
  rw [c0 (by simpa using k3)]
  by_cases k4:x.Kind=4
  · rw [c1 (by rw [k4]; rfl)];obtain⟨u,hu,hum⟩:=at0 (hsa.1 (.inr (.inr (.inl k4))));refine Og.step hu ?_;refine Og.bind (one_g hc 3 (hx.A u hum)) (fun y a => ?_) (fun e he=>Og.err he);obtain⟨a1,t,a2,a3⟩:=a;have s1:=tg a1;refine Og.bind (h.looped _ x.Body s1.ck hx.body (by omega) (Sc.mono (Sc.st hs s1) (by omega)) (by omega)) (fun y4 a4 => ?_) (fun e he=>Og.err he);refine Og.ok (QA.one (s1.trans a4.1) ?_ (by omega));rw [a2];exact Ad.mono (n:=2 * sm wS x.Body+1) (.mk (fun t ht=>by rw [List.mem_singleton.1 ht]; exact a3.mono (w1 u hum)) P5 a4.2.1 P5 P5 ⟨by simp,by simp,by have:=a4.2.2; dsimp only; omega,by simp,by simp,P5⟩) (by omega)
  rw [c0 (by simpa using k4)]
  by_cases k5:x.Kind=5
  · rw [c1 (by rw [k5]; rfl)];refine Og.bind (h.looped _ x.Body hc hx.body (by omega) (Sc.mono hs (by omega)) (by omega)) (fun y4 a4 => ?_) (fun e he=>Og.err he);obtain⟨u,hu,hum⟩:=at0 (hsa.1 (.inr (.inr (.inr (.inl k5)))));refine Og.step hu ?_;refine Og.bind (one_g a4.1.ck 3 (hx.A u hum)) (fun y a => ?_) (fun e he=>Og.err he);obtain⟨a1,t,a2,a3⟩:=a;refine Og.ok (QA.one (a4.1.step a1) ?_ (by omega));rw [a2];exact Ad.mono (n:=2 * sm wS x.Body+1) (.mk (fun t ht=>by rw [List.mem_singleton.1 ht]; exact a3.mono (w1 u hum)) P5 a4.2.1 P5 P5 ⟨by simp,by simp,by have:=a4.2.2; dsimp only; omega,by simp,by simp,P5⟩) (by omega)
  rw [c0 (by simpa using k5)];have blk : ∀ {m:Nat} {l:List U6},(∀ z ∈ l,Ad m z)→m+1≤2 * wS x→l.length≤40000 * m→Ad (2 * wS x) (⟨8,[],[],false,l,[],[],0⟩:U6):=fun hl hm h3=>Ad.mono (.mk P5 P5 hl P5 P5 ⟨by simp,by simp,by dsimp only; omega,by simp,by simp,P5⟩) hm
  by_cases k6:x.Kind=6
  · rw [c1 (by rw [k6]; rfl)];exact Og.bind (h.around c x hc hx hs (by omega)) (fun y a=>Og.ok (QA.one a.1 (blk a.2.1 (by omega) a.2.2) (by omega))) (fun e he=>Og.err he)
  rw [c0 (by simpa using k6)]
  by_cases k7:x.Kind=7
  · rw [c1 (by rw [k7]; rfl)];exact Og.bind (h.choose c x hc hx hs (hsa.1 (.inr (.inr (.inr (.inr k7))))) (by omega)) (fun y a=>Og.ok (QA.one a.1 (a.2.mono (by omega)) (by omega))) (fun e he=>Og.err he)
  rw [c0 (by simpa using k7)]
  by_cases k8:x.Kind=8
  · rw [c1 (by rw [k8]; rfl)];exact Og.bind (answer_g hc hf hx.pn hx.A) (fun y a=>Og.ok (QA.one (tg a.1) (a.2.mono (by omega)) (by omega))) (fun e he=>Og.err he)
  rw [c0 (by simpa using k8)]
  by_cases k11:x.Kind=11
  · rw [c1 (by rw [k11]; rfl)];exact Og.bind (h.block c x.Body hc hx.body (by omega) (Sc.mono hs (by omega)) (by omega)) (fun y a=>Og.ok (QA.one a.1 (blk a.2.1 (by omega) a.2.2) (by omega))) (fun e he=>Og.err he)
  rw [c0 (by simpa using k11)];have s0:=tg (Tg.refl hc.tab)
  by_cases k9:x.Kind=9
  · rw [c1 (by rw [k9]; rfl)];refine Og.step (x:=f) (by rw [hf]; rfl) ?_;cases f.breaks == 0 with
    | true=>rw [c1 (b:=true) rfl]; exact Q0g hx.pn (by decide)
    | false=>exact Og.ok (QA.one s0 (Ad.flat (by omega) P5) (by omega))
  rw [c0 (by simpa using k9)]
  by_cases k10:x.Kind=10
  · rw [c1 (by rw [k10]; rfl)];refine Og.step (x:=f) (by rw [hf]; rfl) ?_;cases f.loops == 0 with
    | true=>rw [c1 (b:=true) rfl]; exact Q0g hx.pn (by decide)
    | false=>exact Og.ok (QA.one s0 (Ad.flat (by omega) P5) (by omega))
  rw [c0 (by simpa using k10)];exact Og.ok ⟨s0,P5,by simp⟩
theorem rdS6 : ∀ n,S6 n
  | 0=>⟨fun _ _ _ _ _ _ h=>by omega,fun _ _ _ _ _ _ h=>by omega,fun _ x _ _ _ h=>by have:=Z4r x; omega,fun _ x _ _ _ _ h=>by have:=Z4r x; omega,fun _ _ _ _ _ h=>by omega,fun _ _ _ _ _ _ h=>by omega⟩
  | n+1=>⟨block_s6 (rdS6 n),X2g (rdS6 n),X2y (rdS6 n),X2o (rdS6 n),stmt_s6 (rdS6 n),acts_s6 (rdS6 n)⟩
theorem acts_any {c:Q0} {l:List U0} (hc:Ck c) (hl : ∀ y ∈ l,OkS y) (hw:sm wS l≤5000) (hs:Sc c (sm wS l)):Og Ep (K1 c l) (QA c (2 * sm wS l)):=(rdS6 NN).acts c l hc hl hw hs (by unfold NN; omega)
def Cd (q:Q4d):Prop:=(∀ a ∈ q.Body,Ad 10000 a)∧q.Body.length≤1000000000∧q.Slots.length≤200
def Cn (c:Q0):Prop:=Ck {c with fun_:=O3.nil}
theorem Ck.codes {c:Q0} (h:Ck c) {l:List Q4d} (hl:l.length=c.u.Codes.length):Ck {c with u := {c.u with Codes:=l}} := ⟨h.tab,h.gl,h.co,h.fn,h.gn,h.cn,h.ug,hl.trans h.uc,h.lg,h.lc⟩
theorem Ck.noFun {c:Q0} (h:Ck c):Cn c:=⟨h.tab,h.gl,h.co,trivial,h.gn,h.cn,h.ug,h.uc,h.lg,h.lc⟩
structure Bo (c:Q0) (i:Nat) (c' : Q0):Prop where
  cn:Cn c'
  s:c'.signs=c.signs
  d:c'.u.Data=c.u.Data
  m : ∃ q,Cd q∧c'.u.Codes=List.set c.u.Codes i q
theorem body_g {c:Q0} (hc:Cn c) {i:Nat} (hi:i < c.signs.length) {f:P3} (hf:OkF f) (hw:wF f≤5000) (hp:c.signs[i].params.length=f.Params.length):Og Ep (R3 c (i:Int) f) (Bo c i):=by
  unfold R3;have hwf:wF f=1+f.Ret.Stars.toNat+sm wV f.Params+sm wS f.Body:=rfl;have lp:=W6 Z6b f.Params;have huc:c.u.Codes.length=c.signs.length:=hc.uc;refine Og.step (B6 hi) ?_;have ck1:Ck {c with fun_:=(O3.some (⟨c.signs[i].ret,[],[],([(some [])]:List (Option (List ((List UInt8)×Int)))),0,0⟩:G5))} := ⟨hc.tab,hc.gl,hc.co,(⟨rfl,by simp,fun m hm=>by rw [List.mem_singleton.1 hm]; exact⟨[],rfl,fun a b hb=>by cases hb⟩,by simp⟩:Fn (⟨c.signs[i].ret,[],[],([(some [])]:List (Option (List ((List UInt8)×Int)))),0,0⟩:G5)),hc.gn,hc.cn,hc.ug,hc.uc,hc.lg,hc.lc⟩;refine Og.loop (fun s=>0≤s.2.1∧s.2.1≤f.Params.length∧St {c with fun_:=(O3.some (⟨c.signs[i].ret,[],[],([(some [])]:List (Option (List ((List UInt8)×Int)))),0,0⟩:G5))} {s.2.2 with t:=(⟨s.1⟩:Z6)}) (fun s=>f.Params.length - s.2.1.toNat) ⟨Int.le_refl 0,by dsimp only; omega,St.refl ck1 rfl⟩ (by dsimp only; omega) ?_;rintro⟨x2,x10,x11⟩ ⟨i1,i2,i3⟩
  dsimp only at i1 i2 i3 ⊢
  have hsg:x11.signs=c.signs:=by
    have e:=i3.eq;have:=congrArg Q0.signs e;exact this
  by_cases hlt:x10 < f.Params.length
  · rw [c1 (dt hlt)];obtain⟨v,hv,hvm⟩:=I6 ⟨i1,hlt⟩;refine Rn.step hv ?_;refine Rn.step (show idx x11.signs (i:Int)=some c.signs[i] by rw [hsg]; exact B6 hi) ?_;obtain⟨p,hp2,_⟩:=I6 (l:=c.signs[i].params) (n:=x10) ⟨i1,by rw [hp]; exact hlt⟩;refine Rn.step hp2 ?_;obtain⟨k,k',e1,e2,e3⟩:=i3.fn;cases e1;refine Rn.bindG (Y6p i3.ck e2 (by rw [e3]; exact Nat.le_refl 1) (hf.ps v hvm).pos _ _) (fun y a => ?_) (fun e he=>Rn.ok (Og.err he));exact Rn.ok ⟨⟨by dsimp only; rw [w64 (by omega)]; omega,by dsimp only; rw [w64 (by omega)]; omega,i3.trans a⟩,by dsimp only; rw [w64 (by omega)]; omega⟩
  · rw [c0 (df hlt)];refine Rn.ok ?_;obtain⟨k,k',e1,e2,e3⟩:=i3.fn;cases e1;show Og Ep ((K1 _ _).bind _) _;refine Og.bind (acts_any i3.ck hf.body (by omega) ⟨k',e2,by rw [e3]; exact Nat.le_refl 1,by rw [e3]; show 1+_≤_; omega⟩) (fun y a => ?_) (fun e he=>Og.err he);have st:=i3.trans a.1;obtain⟨q,q',f1,f2,f3⟩:=st.fn;cases f1;have hfq:=st.ck.fn;rw [f2] at hfq;have hfq:Fn q' := hfq
    have eu:y.2.u=c.u:=by
      have e:=congrArg Q0.u st.eq;exact e
    have es:y.2.signs=c.signs:=by
      have e:=congrArg Q0.signs st.eq;exact e
    have hlc:i < y.2.u.Codes.length:=by rw [eu]; omega
    refine Og.step (x:=q') (by rw [f2]; rfl) ?_;obtain⟨u8,hu8⟩ : ∃ u,idx y.2.u.Codes (i:Int)=some u:=⟨_,B6 hlc⟩;refine Og.step hu8 ?_;refine Og.step hu8 ?_
    have hl2:idx (List.set y.2.u.Codes (Int.toNat (i:Int)) ({u8 with Body:=y.1})) (i:Int)=some {u8 with Body:=y.1} := by
      rw [Int.toNat_natCast,B6 (by rw [List.length_set]; exact hlc),List.getElem_set_self]
    refine Og.step hl2 ?_;refine Og.step hl2 ?_;refine Og.ok ⟨(st.ck.codes (by simp)).noFun,es,by dsimp only; rw [eu],_,?_,by dsimp only; rw [eu,Int.toNat_natCast,List.set_set]⟩;exact⟨fun z hz=>(a.2.1 z hz).mono (by omega),by have:=a.2.2; dsimp only; omega,hfq.le⟩
structure Uo (u:Z2u):Prop where
  g:u.Globals.length≤200
  d:u.Data.length≤5000
  c:u.Codes.length≤200
  cd : ∀ q ∈ u.Codes,Cd q
theorem try_g {p:J2} (hp:OkP p) (hw:wP p≤5000) {c:Q0} (hc:Ck c) (hf:c.fun_=O3.nil) (h0:c.signs = []) (hd:c.u.Data = []):Og Ep (S9 c p) (fun c' => Uo c'.u):=by
  have hwp:wP p=sm wT p.Structs+sm wV p.Globals+sm wF p.Funcs:=rfl;have lS:=W6 Y7c p.Structs;have lG:=W6 Z6b p.Globals;have lF:=W6 Y7d p.Funcs
  have oV : ∀ {v:F2} {k:Nat},wV v≤k→k≤5000→v.Dims.length≤5000∧(∀ x ∈ v.Init,wE x≤10000)∧v.Init.length≤5000:=fun {v k} h1 h2=>by
    have h3:wV v=1+v.Type_.Stars.toNat+v.Dims.length+sm wE v.Init:=rfl;have h4:=W6 Q2e v.Init;exact⟨by omega,fun x hx=>by have:=Z0i wE hx; omega,by omega⟩
  unfold S9;refine Og.bind (X1v hc.tab (by omega) (fun s hs => ?_)) (fun y1 a1 => ?_) (fun e he=>Og.err he)
  · have h1:=Z0i wT hs;have h2:wT s=1+sm wV s.Fields:=rfl;have h3:=hp.s s hs;have h4:=W6 Z6b s.Fields;exact⟨h3.2.2,fun v hv=>⟨h3.2.1 v hv,by have:=Z0i wV hv; have:wV v=1+v.Type_.Stars.toNat+v.Dims.length+sm wE v.Init:=rfl; omega⟩,by omega⟩
  have e1:=a1.eq;have ck1:=hc.tt a1;have f1:y1.fun_=c.fun_:=by rw [e1]
  have s1:y1.signs = []:=by rw [e1]; exact h0
  have d1:y1.u.Data = []:=by rw [e1]; exact hd
  refine Og.loop (fun s=>0≤s.1∧s.1≤p.Globals.length∧Ck {s.2.1 with t:=s.2.2} ∧ s.2.1.fun_=O3.nil∧s.2.1.signs = []∧(s.2.1.u.Data.length:Int)=s.1) (fun s=>p.Globals.length - s.1.toNat) ⟨Int.le_refl 0,by dsimp only; omega,by dsimp only; rw [← f1]; exact ck1,hf,s1,by dsimp only; rw [d1]; rfl⟩ (by dsimp only; omega) ?_;rintro⟨x10,x11,x12⟩ ⟨i1,i2,i3,i4,i5,i6⟩
  dsimp only at i1 i2 i3 i4 i5 i6 ⊢
  by_cases hlt:x10 < p.Globals.length
  · rw [c1 (dt hlt)];obtain⟨v,hv,hvm⟩:=I6 ⟨i1,hlt⟩;have hwv:=Z0i wV hvm;obtain⟨v1,v2,v3⟩:=oV hwv (by omega);refine Rn.step hv ?_;refine Rn.bindG (global_g i3 (hp.g v hvm) v1 v2 v3 (by dsimp only; omega)) (fun y a => ?_) (fun e he=>Rn.ok (Og.err he));exact Rn.ok ⟨⟨by dsimp only; rw [w64 (by omega)]; omega,by dsimp only; rw [w64 (by omega)]; omega,a.ck,a.f.trans i4,a.s.trans i5,by have:=a.d; dsimp only at this ⊢; rw [w64 (by omega)]; omega⟩,by dsimp only; rw [w64 (by omega)]; omega⟩
  rw [c0 (df hlt)];refine Rn.ok ?_;show Og Ep ((loopM _ NN _).bind _) _
  clear hlt
  refine Og.loop (fun s=>0≤s.1∧s.1≤p.Funcs.length∧Ck {s.2.1 with t:=s.2.2} ∧ s.2.1.fun_=O3.nil∧(s.2.1.signs.length:Int)=s.1∧(∀(j:Nat) (a:M2) (f:P3),s.2.1.signs[j]? = some a→p.Funcs[j]? = some f→a.params.length=f.Params.length)∧s.2.1.u.Data.length≤5000) (fun s=>p.Funcs.length - s.1.toNat) ⟨Int.le_refl 0,by dsimp only; omega,i3,i4,by dsimp only; rw [i5]; rfl,fun j a f h=>(by dsimp only at h; rw [i5] at h; simp at h),by dsimp only; omega⟩ (by dsimp only; omega) ?_
  clear i3 i4 i5 i6
  rintro⟨x22,x23,x24⟩ ⟨j1,j2,j3,j4,j5,j6,j7⟩
  dsimp only at j1 j2 j3 j4 j5 j6 j7 ⊢
  by_cases hlt:x22 < p.Funcs.length
  · rw [c1 (dt hlt)];obtain⟨k,rfl⟩:=Int.eq_ofNat_of_zero_le j1;have hk:k < p.Funcs.length:=by omega
    have hm:=List.getElem_mem hk;have ho:=hp.f _ hm;have hwv:=Z0i wF hm;have hwf:wF p.Funcs[k]=1+p.Funcs[k].Ret.Stars.toNat+sm wV p.Funcs[k].Params+sm wS p.Funcs[k].Body:=rfl;have lp:=W6 Z6b p.Funcs[k].Params;refine Rn.step (B6 hk) ?_;refine Rn.bindG (header_g j3 ⟨ho.pos,ho.ty,ho.ps,by omega⟩) (fun y a => ?_) (fun e he=>Rn.ok (Og.err he));obtain⟨sg,sg1,sg2⟩:=a.s
    dsimp only at sg1
    have fn:=a.f
    dsimp only at fn
    refine Rn.ok ⟨⟨by dsimp only; rw [w64 (by omega)]; omega,by dsimp only; rw [w64 (by omega)]; omega,?_,j4,by dsimp only; rw [w64 (by omega),sg1,List.length_append]; simp; omega,fun j b f h1 h2 => ?_,by have:=a.d; dsimp only at this ⊢; rw [this]; exact j7⟩,by dsimp only; rw [w64 (by omega)]; omega⟩
    · dsimp only
      rw [← fn];exact a.ck
    · dsimp only at h1
      rw [sg1] at h1
      by_cases hj:j < x23.signs.length
      · rw [List.getElem?_append_left hj] at h1;exact j6 j b f h1 h2
      · have hjk:j=k:=by
          have:=(List.getElem?_eq_some_iff.1 h1).1;rw [List.length_append,List.length_singleton] at this;omega
        subst hjk;rw [List.getElem?_append_right (by omega),show j - x23.signs.length=0 by omega] at h1;cases h1;rw [List.getElem?_eq_getElem hk] at h2;cases h2;exact sg2
  rw [c0 (df hlt)];refine Rn.ok ?_;show Og Ep ((I3 _ _).bind _) _;have hFl:x23.signs.length=p.Funcs.length:=by omega
  refine Og.bind (main_g j3 (by dsimp only; omega) (fun f hf=>(hp.f f hf).pos)) (fun y4 a4 => ?_) (fun e he=>Og.err he);obtain⟨mn,rfl⟩:=a4
  dsimp only
  have ck4:Cn {x23 with t:=x24,u := {x23.u with Main:=mn}} := ⟨j3.tab,j3.gl,j3.co,trivial,j3.gn,j3.cn,j3.ug,j3.uc,j3.lg,j3.lc⟩;have hcl:=ck4.lc
  dsimp only at hcl
  refine Og.loop (fun s=>0≤s.1∧s.1≤p.Funcs.length∧Cn {s.2.1 with t:=s.2.2} ∧ s.2.1.signs=x23.signs∧s.2.1.u.Data=x23.u.Data∧(∀(j:Nat) (q:Q4d),(j:Int) < s.1→s.2.1.u.Codes[j]? = some q→Cd q)) (fun s=>p.Funcs.length - s.1.toNat) ⟨Int.le_refl 0,by dsimp only; omega,ck4,rfl,rfl,fun j q h=>by dsimp only at h; omega⟩ (by dsimp only; omega) ?_
  clear ck4 j3 hlt
  rintro⟨x34,x35,x36⟩ ⟨k1,k2,k3,k4,k5,k6⟩
  dsimp only at k1 k2 k3 k4 k5 k6 ⊢
  have huc:=k3.uc;have hug:=k3.ug;have hlg:=k3.lg
  dsimp only at huc hug hlg
  by_cases hlt:x34 < p.Funcs.length
  · rw [c1 (dt hlt)];obtain⟨k,rfl⟩:=Int.eq_ofNat_of_zero_le k1;have hk:k < p.Funcs.length:=by omega
    have hm:=List.getElem_mem hk;have ho:=hp.f _ hm;have hwv:=Z0i wF hm;have hs:k < ({x35 with t:=x36} : Q0).signs.length:=by dsimp only; rw [k4]; omega
    have hsp:({x35 with t:=x36} : Q0).signs[k].params.length=p.Funcs[k].Params.length:=by
      refine j6 k _ _ ?_ (List.getElem?_eq_getElem hk);rw [← k4];exact List.getElem?_eq_getElem hs
    refine Rn.step (B6 hk) ?_;refine Rn.bindG (body_g k3 hs ho (by omega) hsp) (fun y a => ?_) (fun e he=>Rn.ok (Og.err he));obtain⟨q,q1,q2⟩:=a.m;refine Rn.ok ⟨⟨by dsimp only; rw [w64 (by omega)]; omega,by dsimp only; rw [w64 (by omega)]; omega,a.cn,a.s.trans k4,a.d.trans k5,fun j r h1 h2 => ?_⟩,by dsimp only; rw [w64 (by omega)]; omega⟩
    dsimp only at h1 h2
    rw [w64 (by omega)] at h1;rw [q2,List.getElem?_set] at h2
    split at h2
    · split at h2
      · cases h2; exact q1
      · cases h2
    · exact k6 j r (by omega) h2
  · rw [c0 (df hlt)];refine Rn.ok (Og.ok ⟨by dsimp only; omega,by dsimp only; rw [k5]; exact j7,by dsimp only; rw [huc,k4]; exact hcl,fun q hq => ?_⟩);obtain⟨j,hj,rfl⟩:=List.getElem_of_mem hq
    dsimp only at hj
    exact k6 j _ (by rw [huc,k4] at hj; omega) (List.getElem?_eq_getElem hj)
theorem newTab : ∃ t,Y2g=some t∧Tab t:=by
  refine⟨_,rfl,by decide,by decide,fun k hk => ?_⟩
  simp only [List.mem_cons,List.not_mem_nil,or_false] at hk
  rcases hk with rfl | rfl | rfl
  · exact⟨by decide,by decide,fun h=>absurd rfl h,fun h=>(by cases h),fun h=>(by cases h),by simp⟩
  · exact⟨by decide,by decide,fun _=>(by decide),fun h=>(by cases h),fun h=>(by cases h),by simp⟩
  · exact⟨by decide,by decide,fun _=>(by decide),fun h=>(by cases h),fun h=>(by cases h),by simp⟩
theorem X3a {p:J2} (hp:OkP p) (hw:wP p≤5000) : ∃ u q e,Q1p p=some (u,q,e)∧((e=0∧q=⟨0,0⟩) ∨ (e ≠ 0∧Pn q))∧Uo u:=by
  obtain⟨t,ht,hT⟩:=newTab;unfold Q1p;rw [ht,Option.bind_some];have h:=try_g hp hw (c:=⟨t,⟨[],[],[],0⟩,some [],some [],[],[],O3.nil⟩) ⟨hT,⟨[],rfl,fun a b h=>(by cases h)⟩,⟨[],rfl,fun a b h=>(by cases h)⟩,trivial,rfl,rfl,rfl,rfl,by simp,by simp⟩ rfl rfl rfl;obtain⟨z,hz,hq⟩:=h;rw [hz,Option.bind_some];cases z with
  | error e=>exact⟨_,_,_,rfl,.inr ⟨hq.2,hq.1⟩,⟨by simp,by simp,by simp,fun q h=>by cases h⟩⟩
  | ok c' => exact⟨_,_,_,rfl,.inl ⟨rfl,rfl⟩,hq⟩
theorem Z9n {α : Type} {w : α → Nat} {x : α} {l:List α} (h:x ∈ l):w x≤sm w l:=Z0i w h
theorem Z3l {α : Type} {f : α → Option α} (g : α → α) (l:List α) (hl:l.length≤8589934592) (h : ∀ x ∈ l,f x=some (g x)) :
    ((S0 (List.length ([]:List α)+List.length l)).bind fun _=>some (([]:List α)++l)).bind (fun y1=>(loopM (fun(x1,x2)=>(bif decide (x2 < (List.length y1:Int)) then ((idx x1 x2).bind fun u1=>(f u1).bind fun y2=>(idx x1 x2).bind fun u2=>(idx x1 x2).bind fun u3=>some (Lp.go (List.set x1 (Int.toNat x2) y2,IntKind.wrap .i64 (x2+1)))) else (some (Lp.brk (x1,x2))):Option (Lp ((List α)×Int) (Unit)))) NN (y1,(0:Int))).bind fun o=>o.thn (fun(x1,x2)=>some x1) (fun _=>none))=some (l.map g):=by
  rw [P4 (by simpa using hl)]
  simp only [Option.bind_some,List.nil_append]
  refine run_bind (fun k=>((l.take k).map g++l.drop k,(k:Int))) l.length (.brk (l.map g,(l.length:Int))) (by simp) (by omega) (fun k hk => ?_) ?_ trivial rfl
  · have hlen:((l.take k).map g++l.drop k).length=l.length:=by simp; omega
    have hk' : k < ((l.take k).map g++l.drop k).length:=by omega
    have hget:((l.take k).map g++l.drop k)[k]=l[k]:=by
      rw [List.getElem_append_right (by simp; omega)]
      simp only [List.length_map,List.length_take,List.getElem_drop]
      congr 1
      omega
    dsimp only
    rw [c1 (dlt hk),B6 hk',hget]
    simp only [Option.bind_some]
    rw [h _ (List.getElem_mem hk)]
    simp only [Option.bind_some]
    rw [w64 (by omega),Int.toNat_natCast]
    congr 2
    rw [Prod.mk.injEq];refine⟨?_,by omega⟩;rw [List.set_append_right _ _ (by simp; omega),List.take_succ_eq_append_getElem hk,List.map_append,List.append_assoc]
    congr 1
    simp only [List.length_map,List.length_take]
    rw [show k - min k l.length=0 by omega,List.drop_eq_getElem_cons hk]
    rfl
  · dsimp only
    rw [c0 (dge _)]
    simp
theorem each3 {n m:Nat} (hP : ∀ x,wE x≤n→(rec7 m).O2 x=some (plE x)) (l:List Z8) (hl:sm wE l≤n) (hn:n≤1000000):(rec7 (m+1)).L2 l=some (l.map plE):=by
  have:=W6 Q2e l;exact Z3l (f:=(rec7 m).O2) plE l (by omega) fun x hx=>hP x (Nat.le_trans (Z9n hx) hl)
theorem X1h : ∀(n:Nat),n≤1000000 → ∀ m,2 * n≤m → ∀ x,wE x≤n→(rec7 m).O2 x=some (plE x)
  | 0,_,m,_,x,hx=>by have:=Q2e x; omega
  | n+1,hn,m,hm,x,hx=>by
    obtain⟨k,rfl⟩ : ∃ k,m=k+1+1:=⟨m - 2,by omega⟩
    have hw:=Y6d x
    have h3:=each3 (X1h n (by omega) k (by omega)) x.Kids (by omega) (by omega)
    show Q5t (rec7 (k+1)) x=_
    unfold Q5t
    rw [plE_eq]
    exact bnd h3 rfl
theorem Y2m (l:List Z8) (h:sm wE l≤1000000):L2 l=some (l.map plE):=by
  obtain⟨k,hk⟩ : ∃ k,NN=k+1:=⟨NN - 1,by unfold NN; omega⟩;unfold L2;rw [hk];exact each3 (X1h 1000000 (by omega) k (by unfold NN at hk; omega)) l h (by omega)
theorem plainV (v:F2) (h:wV v≤1000000):Q8w v=some (plV v):=by
  unfold wV at h;unfold Q8w Z0n;rw [P4 (by simp; omega)];exact bnd rfl (bnd (Y2m _ (by omega)) rfl)
theorem Y2n (l:List F2) (h:sm wV l≤1000000):Q7p l=some (l.map plV):=by
  have:=W6 Z6b l;exact Z3l plV l (by omega) fun x hx=>plainV x (Nat.le_trans (Z9n hx) h)
theorem each1_eq (l:List D4) (h:sm wT l≤1000000):Z9m l=some (l.map plT):=by
  have:=W6 Y7c l;refine Z3l plT l (by omega) fun x hx => ?_;have hx:=Z9n (w:=wT) hx;unfold wT at hx;unfold wT at h;unfold Z2w;exact bnd (Y2n _ (by omega)) rfl
theorem each5 {n m:Nat} (hP : ∀ x,wS x≤n→(Z7o m).I4 x=some (plS x)) (l:List U0) (hl:sm wS l≤n) (hn:n≤1000000):(Z7o (m+1)).A6 l=some (l.map plS):=by
  have:=W6 Z4r l;exact Z3l (f:=(Z7o m).I4) plS l (by omega) fun x hx=>hP x (Nat.le_trans (Z9n hx) hl)
theorem each6 {n m:Nat} (hP : ∀ x,wS x≤n→(Z7o m).I4 x=some (plS x)) (l:List E8) (hl:sm wC l≤n+1) (hn:n+1≤1000000):(Z7o (m+3)).Q4q l=some (l.map plC):=by
  have:=W6 X0a l;refine Z3l (f:=(Z7o (m+2)).R9) plC l (by omega) fun c hc => ?_;have hc:=Z9n (w:=wC) hc;unfold wC at hc;unfold wC at hl;show Q3i (Z7o (m+1)) c=_;unfold Q3i;exact bnd (each5 hP c.Body (by omega) (by omega)) rfl
theorem Y3u : ∀(n:Nat),n≤1000000 → ∀ m,4 * n≤m → ∀ x,wS x≤n→(Z7o m).I4 x=some (plS x)
  | 0,_,m,_,x,hx=>by have:=Z4r x; omega
  | n+1,hn,m,hm,x,hx=>by
    obtain⟨k,rfl⟩ : ∃ k,m=k+3+1:=⟨m - 4,by omega⟩
    have hw:=Z8c x
    show Q5s (Z7o (k+3)) x=_
    unfold Q5s
    rw [plS_eq]
    refine bnd (Y2m _ (by omega)) ?_
    refine bnd (Y2m _ (by omega)) ?_
    refine bnd (Y2m _ (by omega)) ?_
    refine bnd (Y2n _ (by omega)) ?_
    refine bnd (each5 (Y3u n (by omega) (k+2) (by omega)) x.Body (by omega) (by omega)) ?_
    refine bnd (each5 (Y3u n (by omega) (k+2) (by omega)) x.Else (by omega) (by omega)) ?_
    exact bnd (each6 (Y3u n (by omega) k (by omega)) x.Cases (by omega) (by omega)) rfl
theorem each5_eq (l:List U0) (h:sm wS l≤1000000):A6 l=some (l.map plS):=by
  obtain⟨k,hk⟩ : ∃ k,NN=k+1:=⟨NN - 1,by unfold NN; omega⟩;unfold A6;rw [hk];exact each5 (Y3u 1000000 (by omega) k (by unfold NN at hk; omega)) l h (by omega)
theorem each4_eq (l:List P3) (h:sm wF l≤1000000):Z4j l=some (l.map plF):=by
  have:=W6 Y7d l;refine Z3l plF l (by omega) fun x hx => ?_;have hx:=Z9n (w:=wF) hx;unfold wF at hx;unfold wF at h;unfold Z2v;exact bnd (Y2n _ (by omega)) (bnd (each5_eq _ (by omega)) rfl)
theorem Plain_eq (p:J2) (h:wP p≤1000000):Z3n p=some (plP p):=by
  unfold wP at h;unfold Z3n;exact bnd (each1_eq _ (by omega)) (bnd (Y2n _ (by omega)) (bnd (each4_eq _ (by omega)) rfl))
theorem Z0w {α : Type} [BEq α] [LawfulBEq α] (x : α):(x != x)=false:=by simp
theorem Q8i {R A:Type} {body:Int→Option (Lp Int R)} {f:Lp Int R→Option A} {X:Option A} (n:Nat) (hn:n≤1000000000) (h1 : ∀ k,k < n→body (k:Int)=some (.go (IntKind.wrap .i64 ((k:Int)+1)))) (h2:body (n:Int)=some (.brk (n:Int))) (hX:f (.brk (n:Int))=X):(loopM body NN 0).bind f=X :=
  run_bind (fun k=>(k:Int)) n (.brk (n:Int)) rfl (by omega) (fun k hk=>by rw [h1 k hk,w64 (by omega)]; rfl) h2 trivial hX
theorem Y4k (l:List Q7l) (hl:l.length≤1000000000):Q9y l l=some true:=by
  unfold Q9y;rw [c0 (Z0w _)];refine Q8i l.length hl (fun k hk => ?_) (by rw [c0 (dge _)]) rfl;rw [c1 (dlt hk),B6 hk]
  simp only [Option.bind_some,Z0w,cond_false]
theorem Y6g : ∀(n m:Nat) (l:List Y4),(∀ t ∈ l,Dp n t)→l.length≤1000000000→n < m→(rec9 m).Q0y l l=some true
  | n,0,l,h,hl,hm=>by omega
  | n,m+1,l,h,hl,hm=>by
    show Z0s (rec9 m) l l=_
    unfold Z0s
    rw [c0 (Z0w _)]
    refine Q8i l.length hl (fun k hk => ?_) (by rw [c0 (dge _)]) rfl
    have hd:=h _ (List.getElem_mem hk)
    rw [c1 (dlt hk),B6 hk]
    simp only [jn,Option.bind_some,Z0w,beq_self_eq_true,Bool.not_true,Bool.or_false,cond_false]
    generalize l[k]=t at hd ⊢
    cases hd with
    | @mk n' _ hk' _ kl =>
      rw [Y6g n' m t.Kids hk' (by omega) (by omega)]
      rfl
theorem Y8u {l:List Y4} (h : ∀ t ∈ l,Dp 70000 t) (hl:l.length≤1000000000):Q0y l l=some true:=Y6g 70000 NN l h hl (by unfold NN; omega)
theorem Z7a : ∀(n m:Nat) (l:List U6),(∀ t ∈ l,Ad n t)→l.length≤1000000000→n < m→(Y8w m).L3 l l=some true
  | n,0,l,h,hl,hm=>by omega
  | n,m+1,l,h,hl,hm=>by
    show Q8x (Y8w m) l l=_
    unfold Q8x
    rw [c0 (Z0w _)]
    refine Q8i l.length hl (fun k hk => ?_) (by rw [c0 (dge _)]) rfl
    have hd:=h _ (List.getElem_mem hk)
    rw [c1 (dlt hk),B6 hk]
    simp only [jn,Option.bind_some,Z0w,beq_self_eq_true,Bool.not_true,Bool.or_false,cond_false]
    generalize l[k]=t at hd ⊢
    cases hd with
    | @mk n' _ A P b e c al =>
      rw [Y8u A al.A]
      simp only [Option.bind_some,Bool.not_true,cond_false]
      rw [Y8u P al.P]
      simp only [Option.bind_some,Bool.not_true,cond_false]
      rw [Z7a n' m t.Body b al.b (by omega)]
      simp only [Option.bind_some,Bool.not_true,cond_false]
      rw [Z7a n' m t.Else e al.e (by omega)]
      simp only [Option.bind_some,Bool.not_true,cond_false]
      refine Q8i t.Cases.length al.c (fun j hj => ?_) (by rw [c0 (dge _)]) rfl
      have hm:=List.getElem_mem hj
      rw [c1 (dlt hj),B6 hj]
      simp only [Option.bind_some,Z0w,beq_self_eq_true,Bool.not_true,Bool.or_false,cond_false]
      rw [Z7a n' m t.Cases[j].Body (c _ hm) (al.cb _ hm) (by omega)]
      rfl
theorem X2z {u:Z2u} (h:Uo u):Z4b u u=some true:=by
  have hg:=h.g;have hd:=h.d;have hc:=h.c;unfold Z4b;rw [Y4k _ (by omega)]
  simp only [Option.bind_some,Z0w,Bool.not_true,Bool.or_false,cond_false]
  refine Q8i u.Data.length (by omega) (fun k hk => ?_) (by rw [c0 (dge _)]) ?_
  · rw [c1 (dlt hk),B6 hk]
    simp
  refine Q8i u.Codes.length (by omega) (fun k hk => ?_) (by rw [c0 (dge _)]) rfl;have hq:=h.cd _ (List.getElem_mem hk);rw [c1 (dlt hk),B6 hk]
  simp only [jn,Option.bind_some,Z0w,beq_self_eq_true,Bool.not_true,Bool.or_false,cond_false]
  rw [Y4k _ (by have:=hq.2.2; omega)]
  simp only [Option.bind_some,Bool.not_true,cond_false]
  rw [show L3 u.Codes[k].Body u.Codes[k].Body=some true from Z7a 10000 NN _ hq.1 hq.2.1 (by unfold NN; omega)]
  rfl
theorem X0w:Q9z=some true:=by kernel_rfl
theorem Y3t (s:List UInt8):Q4v s=some true:=by
  unfold Q4v;rw [X0w]
  by_cases h:(4000:Int) < s.length
  · rw [c1 (dt h)]; rfl
  rw [c0 (df h)];obtain⟨p,q,e,hr,ho⟩:=Read_any s (by omega);refine bnd hr ?_
  dsimp only
  by_cases he:e=0
  · rw [c0 (by rw [he]; rfl)];obtain⟨o1,o2⟩:=ho he;obtain⟨u,r,f,hc,hf,hu⟩:=X3a o1 o2;refine bnd hc (bnd (Plain_eq p (by omega)) ?_);have hv:=Check_v (eqP_plP p);rw [hc] at hv;cases hp:Q1p (plP p) with
    | none=>rw [hp] at hv; exact hv.elim
    | some z =>
      obtain⟨u',r',f'⟩:=z;rw [hp] at hv;obtain⟨v1,v2⟩:=hv
      dsimp only at v1 v2
      subst v1;subst v2
      simp only [Option.bind_some,bne_self_eq_false,cond_false]
      rw [X2z hu]
      rcases hf with ⟨rfl,rfl⟩ | ⟨h1,h2⟩
      · rfl
      · have hb:(f == 0)=false:=beq_eq_false_iff_ne.2 h1
        have hb2:((r.Line == 0)&&(r.Col == 0))=false:=by
          rw [Bool.and_eq_false_iff,beq_eq_false_iff_ne,beq_eq_false_iff_ne];obtain⟨a,b⟩:=r
          by_cases ha:a=0
          · right
            rintro rfl;exact h2 (by rw [ha])
          · exact .inl ha
        rw [hb,hb2]
        rfl
  · rw [c1 (bne_iff_ne.2 he)]; rfl
end Go.Proofs.YtfffghclkmbopaaGreat
