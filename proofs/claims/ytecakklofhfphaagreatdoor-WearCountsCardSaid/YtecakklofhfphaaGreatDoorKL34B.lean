/- Plain laws: no program is in sight here. -/
import Derived.Test.YtecakklofhfphaaGreatDoorKL34A
set_option linter.unusedVariables false
namespace Go.Proofs.YtecakklofhfphaaGreatDoor
section
variable {r:Q0} {t:List Y7}
def Z5i (c:List Int) (t:List Y7):Prop:=t.length=c.length ∧ ∀(k:Nat) (x:Y7) (w:Int),t[k]? = some x→c[k]? = some w→x.seen=true→x.is=((Q2e w.toNat).2 == 0)∧x.inst=(Q2e w.toNat).1
theorem Y2t (h:RW r) (hp : ¬ r.Pc % 4=0 ∨ (r.Code.length:Int)≤r.Pc / 4):U7 (dm r t)=some (⟨0,0,0,0,0⟩,false,dm r t):=by
  have hpc:=h.pc
  have hcl:=h.cl
  unfold U7
  rw [J9 (show (dm r t).volatile.regs.length=32 from h.rl),Option.bind_some,show (dm r t).volatile.pc=r.Pc from rfl,show (dm r t).code=r.Code from rfl,Int.tmod_eq_emod_of_nonneg hpc.1,Int.tdiv_eq_ediv_of_nonneg hpc.1]
  by_cases h4:r.Pc % 4=0
  · rw [c0 (by simpa using h4),D5,D5,Int.emod_eq_of_lt (a:=(r.Code.length:Int)) (by omega) (by omega),Int.emod_eq_of_lt (a:=r.Pc / 4) (by omega) (by omega),c1 (dt (by rcases hp with hp | hp; exact absurd h4 hp; exact hp))]
  · rw [c1 (by simpa using h4)]
theorem fetch_in (h:RW r) (ht:Z5i r.Code t) {k:Nat} {w:Int} (hk:r.Pc=4 * (k:Int)) (hw:r.Code[k]? = some w) : ∃ t',U7 (dm r t)=some ((Q2e w.toNat).1,(Q2e w.toNat).2 == 0,dm r t')∧Z5i r.Code t' := by
  have hcl:=h.cl
  obtain⟨hkl,hwe⟩:=List.getElem?_eq_some_iff.1 hw
  have hww:Wd w:=h.cw w (hwe ▸ List.getElem_mem hkl)
  have hkt:k < t.length:=by rw [ht.1]; exact hkl
  have hq:IntKind.wrap .u32 (Int.tdiv r.Pc 4)=(k:Int):=by
    rw [Int.tdiv_eq_ediv_of_nonneg (by omega),D5,hk,Int.mul_ediv_cancel_left _ (by decide)]
    omega
  have hm:Int.tmod r.Pc 4=0:=by rw [Int.tmod_eq_emod_of_nonneg (by omega),hk]; omega
  unfold U7 dm
  dsimp only [jn]
  rw [J9 h.rl,Option.bind_some,hm,hq,c0 (b:=((0:Int) != 0)) (by rfl),D5 (r.Code.length:Int),Int.emod_eq_of_lt (by omega) (by omega),c0 (df (by omega)),F2 hkt,Option.bind_some]
  cases hs:t[k].seen with
  | true =>
    obtain⟨h1,h2⟩:=ht.2 k t[k] w (by simp [hkt]) hw hs
    refine⟨t,?_,ht⟩
    rw [c0 (by rfl),Option.bind_some,Option.bind_some,h1,h2]
  | false =>
    have hN:(w.toNat:Int)=w:=by omega
    have hd:E6 w=some (Q2e w.toNat):=by have:=Z5k (w:=w.toNat) (by omega); rwa [hN] at this
    rw [c1 (by rfl),F2 hkl,Option.bind_some,hwe,hd,Option.bind_some,Option.bind_some,Int.toNat_natCast,F2 (by rw [List.length_set]; exact hkt),Option.bind_some,Option.bind_some,List.getElem_set_self]
    refine⟨t.set k ⟨true,(Q2e w.toNat).2 == 0,(Q2e w.toNat).1⟩,rfl,by rw [List.length_set]; exact ht.1,?_⟩
    intro j x w' hx hw' hse
    rw [List.getElem?_set] at hx
    by_cases hj:k=j
    · subst hj
      rw [if_pos rfl,if_pos hkt] at hx
      cases hx
      rw [hw] at hw'
      cases hw'
      exact⟨rfl,rfl⟩
    · rw [if_neg hj] at hx
      exact ht.2 j x w' hx hw' hse
theorem step_sim (h:RW r) (ht:Z5i r.Code t) (hst:r.Steps≤1000000) : ∃ r' t' z,U6 r=some r' ∧ K4 (dm r t)=some (z,dm r' t')∧RW r' ∧ Z5i r'.Code t' ∧ (r.State=0→r'.Steps=r.Steps+1 ∨ (r'.Steps=r.Steps∧r'.State=2))∧KD r r' := by
  have hpc:=h.pc
  have hL:=J9 (show (dm r t).volatile.regs.length=32 from h.rl)
  have fault:RW {r with State:=2} := ⟨h.rl,h.rw,h.r0,h.pc,h.sq,h.ix,h.cw,h.cl,h.dw,h.dl,h.iw,h.il,h.ll,h.st⟩
  unfold U6 K4
  rw [hL,Option.bind_some,show (dm r t).state=r.State from rfl]
  by_cases h0:r.State=0
  · rw [c0 (by simpa using h0),c0 (b:=r.State != 0) (by simpa using h0),Int.tmod_eq_emod_of_nonneg hpc.1,Int.tdiv_eq_ediv_of_nonneg hpc.1,w64 (x:=r.Pc / 4) (by omega)]
    by_cases ho : ¬ r.Pc % 4=0 ∨ (r.Code.length:Int)≤r.Pc / 4
    · rw [Y2t h ho,Option.bind_some]
      dsimp only
      rw [c1 (b := !false) rfl,hL,Option.bind_some]
      refine⟨{r with State:=2},t,2,?_,rfl,fault,ht,fun _ => .inr ⟨rfl,rfl⟩,rfl,rfl⟩
      by_cases h4:r.Pc % 4=0
      · rw [c0 (by simpa using h4),c1 (dt (by rcases ho with ho | ho; exact absurd h4 ho; exact ho))]
      · rw [c1 (by simpa using h4)]
    · have ho1:r.Pc % 4=0:=by omega
      obtain⟨k,hk⟩ : ∃ k:Nat,r.Pc=4 * (k:Int):=⟨(r.Pc / 4).toNat,by omega⟩
      have hk4:r.Pc / 4=(k:Int):=by omega
      have hkl:k < r.Code.length:=by omega
      have hw:r.Code[k]? = some r.Code[k]:=by simp [hkl]
      have hww:Wd r.Code[k]:=h.cw _ (List.getElem_mem hkl)
      obtain⟨t',e1,ht'⟩:=fetch_in h ht hk hw
      have hN:((r.Code[k]).toNat:Int)=r.Code[k]:=by omega
      have hd:E0 r.Code[k]=some (Q2e (r.Code[k]).toNat):=by have:=Z1m (w:=(r.Code[k]).toNat) (by omega); rwa [hN] at this
      rw [c0 (by simpa using ho1),hk4,c0 (df (by omega)),F2 hkl,Option.bind_some,hd,Option.bind_some,e1,Option.bind_some]
      dsimp only
      rcases Z8p (r.Code[k]).toNat with hz | hz
      · rw [hz,c0 (b:=((0:Int) != 0)) rfl,c0 (b := !((0:Int) == 0)) rfl]
        obtain⟨b,r',g,x1,x2,hg,hs,hc,x3,x4⟩:=do_sim (t:=t') h hst (Y1s hz)
        rw [x1,x2,Option.bind_some,Option.bind_some]
        dsimp only
        rw [J9 hg]
        cases b with
        | true =>
          obtain⟨y1,y2⟩:=x3 rfl
          obtain⟨g0,eg,_⟩:=idxN (z:=0) hg (by omega)
          have hss:IntKind.wrap .i64 (r'.Steps+1)=r'.Steps+1:=by have:=h.st; rw [w64 (by omega)]
          rw [c0 (b := !true) rfl,c0 (b := !true) rfl,Option.bind_some,eg,Option.bind_some,Option.bind_some,hss,show (dm r' t').steps=r'.Steps from rfl,hss]
          refine⟨{r' with Steps:=r'.Steps+1},t',r'.State,rfl,?_,y1,by show Z5i r'.Code t'; rw [hc.1]; exact ht',fun _ => .inl (by show r'.Steps+1=_; rw [hs]),hc⟩
          congr 2
          rw [show Int.toNat 0=0 from rfl,y2]
          rfl
        | false =>
          obtain⟨rfl,rfl⟩:=x4 rfl
          rw [c1 (b := !false) rfl,c1 (b := !false) rfl,Option.bind_some]
          exact⟨{r' with State:=2},t',2,rfl,rfl,fault,ht',fun _ => .inr ⟨rfl,rfl⟩,rfl,rfl⟩
      · rw [hz,c1 (b:=((3:Int) != 0)) rfl,c1 (b := !((3:Int) == 0)) rfl,J9 (show (dm r t').volatile.regs.length=32 from h.rl),Option.bind_some]
        exact⟨{r with State:=2},t',2,rfl,rfl,fault,ht',fun _ => .inr ⟨rfl,rfl⟩,rfl,rfl⟩
  · rw [c1 (by simpa using h0),c1 (b:=r.State != 0) (by simpa using h0)]
    unfold V6
    rw [hL]
    exact⟨r,t,r.State,rfl,rfl,h,ht,fun e=>absurd e h0,rfl,rfl⟩
def fl (r:Q0):Q0:=if r.State=0 then {r with Regs:=List.replicate 32 0,Pc:=0,Seq:=0,Index:=0} else r
theorem fl_ref (r:Q0):G2 r=some (fl r):=by
  unfold G2 fl
  by_cases h:r.State=0
  · rw [c1 (by simpa using h),if_pos h]; rfl
  · rw [c0 (by simpa using h),if_neg h]
theorem fl_dev (h:RW r):G1 (dm r t)=some (dm (fl r) t):=by
  unfold G1 fl
  rw [J9 (show (dm r t).volatile.regs.length=32 from h.rl),Option.bind_some]
  by_cases h0:r.State=0
  · rw [c1 (show ((dm r t).state == 0)=true by simpa [dm] using h0),if_pos h0]; rfl
  · rw [c0 (show ((dm r t).state == 0)=false by simpa [dm] using h0),if_neg h0]
theorem fl_rw (h:RW r):RW (fl r):=by
  unfold fl
  split
  · exact⟨by simp,fun x hx=>by rw [List.eq_of_mem_replicate hx]; decide,by simp,by show Wd 0; decide,by show Wd 0; decide,by show Wd 0; decide,h.cw,h.cl,h.dw,h.dl,h.iw,h.il,h.ll,h.st⟩
  · exact h
theorem Y1h (r:Q0):(fl r).Steps=r.Steps∧(fl r).State=r.State∧(fl r).Code=r.Code:=by unfold fl; split <;> exact⟨rfl,rfl,rfl⟩
end
noncomputable def sp (r:Q0):Q0:=(U6 r).getD r
def Gd (r:Q0) (t:List Y7):Prop:=RW r∧Z5i r.Code t
theorem Z5t {r:Q0} {t:List Y7} (h:Gd r t) (hst:r.Steps≤1000000):U6 r=some (sp r)∧(∃ t' z,K4 (dm r t)=some (z,dm (sp r) t')∧Gd (sp r) t')∧(r.State=0→(sp r).Steps=r.Steps+1 ∨ ((sp r).Steps=r.Steps∧(sp r).State=2))∧KD r (sp r):=by
  obtain⟨r',t',z,e1,e2,h1,h2,h3,h4⟩:=step_sim h.1 h.2 hst
  have:sp r=r' := by unfold sp; rw [e1]; rfl
  rw [this]
  exact⟨e1,⟨t',z,e2,h1,h2⟩,h3,h4⟩
def muR (n:Int) (r:Q0):Nat:=(n - r.Steps).toNat+(if r.State=0 then 1 else 0)
theorem muR_sp {n:Int} {r:Q0} (h:r.State=0∧r.Steps < n) (hs:(sp r).Steps=r.Steps+1 ∨ ((sp r).Steps=r.Steps∧(sp r).State=2)):muR n (sp r) < muR n r:=by
  unfold muR
  rw [if_pos h.1]
  rcases hs with hs | ⟨hs,h2⟩
  · rw [hs]; split <;> omega
  · rw [hs,if_neg (by omega)]; omega
theorem Q2k {r:Q0} {t:List Y7} (h:Gd r t):Y1 (dm r t)=some r.Steps:=by
  unfold Y1
  rw [J9 (show (dm r t).volatile.regs.length=32 from h.1.rl)]
  rfl
theorem gd_fl {r:Q0} {t:List Y7} (h:Gd r t):Gd (fl r) t:=⟨fl_rw h.1,by rw [(Y1h r).2.2]; exact h.2⟩
def beg (c d i:List Int):Q0:=⟨c,d,i,List.replicate 32 0,0,0,0,[],0,0,0⟩
def met0 (c:List Int):List Y7:=List.replicate c.length ⟨false,false,⟨0,0,0,0,0⟩⟩
def Z3a (c d:Int):Bool:=((((decide (c < 1)) || (decide (32768 < c))) || (decide (d < 4))) || (decide (65536 < d))) || ((Int.tmod d 4) != 0)
theorem Begin_eq {c d i:List Int} (hd:d.length≤3000):H7 c d i=some (beg c d i):=by
  unfold H7
  refine map_bind d id (by omega) (fun k hk => ?_) ?_ ?_
  · dsimp only
    rw [c1 (dlt hk),F2 hk,Option.bind_some,Z5x (by simp; omega)]
    rfl
  · dsimp only
    rw [c0 (df (by omega))]
  · rw [List.map_id]
    rfl
theorem Z2w {l:List Int} (h:l.length≤100000):M7 l=some l∧N6 l=some l:=by
  unfold M7 N6
  rw [Z5x (by simp; omega)]
  exact⟨rfl,rfl⟩
theorem May_eq (c d:List Int):Q2o (c.length:Int) (d.length:Int)=some (bif Z3a c.length d.length then 1 else 0):=by
  unfold Q2o
  show(bif Z3a c.length d.length then some (1:Int) else some (0:Int))=_
  cases Z3a c.length d.length <;> rfl
theorem New_bad {c d i:List Int} (h:Z3a c.length d.length=true):A6 c d i=some (.ok 1):=by
  unfold A6
  exact c1 h
theorem New_ok {c d i:List Int} (h:Z3a c.length d.length=false) (hc:c.length≤200) (hd:d.length≤3000) (hi:i.length≤40):A6 c d i=some (.error (dm (beg c d i) (met0 c),0)):=by
  unfold A6
  refine Eq.trans (c0 h) ?_
  rw [(Z2w (l:=c) (by omega)).1,(Z2w (l:=d) (by omega)).2,(Z2w (l:=i) (by omega)).1]
  unfold Q3w
  rw [if_pos (by omega)]
  rfl
theorem gd_beg {c d i:List Int} (h:Z3a c.length d.length=false) (hc : ∀ x ∈ c,Wd x) (hd : ∀ x ∈ d,0≤x∧x < 256) (hi : ∀ x ∈ i,Wd x) (hl:i.length≤40):Gd (beg c d i) (met0 c):=by
  unfold Z3a at h
  simp only [Bool.or_eq_false_iff,decide_eq_false_iff_not] at h
  have z:Wd 0:=⟨by omega,by omega⟩
  refine⟨⟨by simp [beg],fun x hx => ?_,by simp [beg],z,z,z,hc,?_,hd,?_,hi,?_,?_,?_⟩,?_,?_⟩
  · obtain rfl:=(List.mem_replicate.1 hx).2; exact z
  · show c.length≤32768; omega
  · show 4≤d.length∧d.length≤65536; omega
  · show i.length < 4294967296; omega
  · show(([]:List K8).length:Int)≤0; simp
  · exact Int.le_refl _
  · show(met0 c).length=c.length; simp [met0]
  · intro k x w hx hw hs
    obtain rfl:=(List.mem_replicate.1 (List.mem_of_getElem? hx)).2
    cases hs
theorem form83 {o:Int} (h:1≤o∧o≤45) : ∃ f,Q2t o=some f∧(f=83 ↔ 16≤o∧o≤18):=by
  refine⟨Z2 o,?_,?_⟩
  · unfold Q2t Q7f S5
    rw [c0 (df (by omega)),c0 (df (by omega)),Option.bind_some,J9 (by rfl),Option.bind_some,Y0q (by omega),Option.bind_some,Option.bind_some,Z0u (by omega)]
  · exact Z5c (P:=fun o=>Z2 o=83 ↔ 16≤o∧o≤18) (by decide +kernel) (by omega) h.2
theorem Z7t {r:Q0} {t:List Y7} (h:RW r) {g:X8} (hc:g.Code=r.Code) (hd:g.Data.length=r.Data.length) :
    ∃ a b,H5 g (dm r t)=some (a,b)∧H6 r=some (bif b then a else -1)∧(b=true→0≤a∧a < (r.Data.length:Int)):=by
  have hpc:=h.pc
  have hcl:=h.cl
  have hdl:=h.dl
  have e1:G6 (dm r t)=some r.Pc:=by
    unfold G6
    rw [J9 (show (dm r t).volatile.regs.length=32 from h.rl),Option.bind_some]
    rfl
  have hm:Int.tmod r.Pc 4=r.Pc % 4:=Int.tmod_eq_emod_of_nonneg hpc.1
  have hq:Int.tdiv r.Pc 4=r.Pc / 4:=Int.tdiv_eq_ediv_of_nonneg hpc.1
  have w1:IntKind.wrap .i64 r.Pc=r.Pc:=w64 (by omega)
  have w2:IntKind.wrap .i64 (r.Pc / 4)=r.Pc / 4:=w64 (by omega)
  unfold H5 H6
  rw [e1,Option.bind_some,Option.bind_some,w1,hm,hq,w2,hc]
  by_cases h4:r.Pc % 4=0
  case neg =>
    refine⟨0,false,c1 (by simp [h4]),?_,fun e=>nomatch e⟩
    rw [c1 (by simpa using h4)]
    rfl
  by_cases hl:(r.Code.length:Int)≤r.Pc / 4
  case pos =>
    refine⟨0,false,c1 (by simp [hl]),?_,fun e=>nomatch e⟩
    rw [c0 (by simpa using h4),c1 (dt hl)]
    rfl
  have hk:(r.Pc / 4).toNat < r.Code.length:=by omega
  have hi:idx r.Code (r.Pc / 4)=some r.Code[(r.Pc / 4).toNat]:=by
    have:=F2 hk
    rwa [show (((r.Pc / 4).toNat:Nat):Int)=r.Pc / 4 by omega] at this
  obtain⟨w,hwe⟩ : ∃ w,r.Code[(r.Pc / 4).toNat]=w:=⟨_,rfl⟩
  have hww:Wd w:=h.cw w (hwe ▸ List.getElem_mem hk)
  rw [hwe] at hi
  have hN:(w.toNat:Int)=w:=by omega
  have d1:E6 w=some (Q2e w.toNat):=by have:=Z5k (w:=w.toNat) (by omega); rwa [hN] at this
  have d2:E0 w=some (Q2e w.toNat):=by have:=Z1m (w:=w.toNat) (by omega); rwa [hN] at this
  rw [c0 (by simp [h4,hl]),c0 (b:=(r.Pc % 4 != 0)) (by simpa using h4),c0 (df hl),hi,Option.bind_some,Option.bind_some,d1,d2,Option.bind_some,Option.bind_some]
  rcases Z8p w.toNat with h0 | h3
  case inr =>
    refine⟨0,false,c1 (by rw [h3]; rfl),?_,fun e=>nomatch e⟩
    rw [c1 (by rw [h3]; rfl)]
    rfl
  have ok:=Y1s h0
  generalize (Q2e w.toNat)=y at ok h0 ⊢
  obtain⟨i,e⟩:=y
  dsimp only at ok h0 ⊢
  subst h0
  obtain⟨f,hf,hf83⟩:=form83 ok.op
  rw [c0 (by rfl),hf,Option.bind_some]
  by_cases ho:16≤i.Op∧i.Op≤18
  case neg =>
    refine⟨0,false,c1 (by have:=mt hf83.1 ho; simpa using this),?_,fun e=>nomatch e⟩
    rw [c1 (by simp only [Bool.or_eq_true,decide_eq_true_eq]; omega)]
    rfl
  have hr1:=ok.r1
  have him:=ok.im
  obtain⟨a,ha,hm_,_⟩:=idxN h.rl hr1
  have hwa:Wd a:=h.rw a hm_
  have rg:F6 (dm r t) i.Rs1=some a:=by
    unfold F6
    rw [c0 (by simp only [Bool.or_eq_false_iff,decide_eq_false_iff_not]; omega),J9 (show (dm r t).volatile.regs.length=32 from h.rl),Option.bind_some]
    show(idx r.Regs i.Rs1).bind _=_
    rw [ha]
    rfl
  obtain⟨z,hz⟩ : ∃ z,z=(a+i.Imm) % 4294967296:=⟨_,rfl⟩
  have hzr:0≤z∧z < 4294967296:=by omega
  have e2:IntKind.wrap .u32 (a+IntKind.wrap .u32 i.Imm)=z:=by rw [D5,D5,hz]; omega
  have e3:IntKind.wrap .i64 (IntKind.wrap .i64 z - 268435456)=z - 268435456:=by rw [w64 (x:=z) (by omega),w64 (by omega)]
  have e4:J2 (IntKind.wrap .i64 (IntKind.wrap .i64 a+i.Imm))=some z:=by
    rw [w64 (x:=a) (by omega),w64 (by omega),P2 (by omega),hz]
  rw [c0 (by simpa using hf83.2 ho),rg,Option.bind_some,e2,e3,c0 (b:=_ || decide (18 < i.Op)) (by simp only [Bool.or_eq_false_iff,decide_eq_false_iff_not]; exact⟨⟨rfl,by omega⟩,by omega⟩),ha,Option.bind_some,e4,Option.bind_some,e3,hd]
  by_cases hz0:0≤z - 268435456
  · rw [c1 (dt hz0)]
    by_cases hz1:z - 268435456 < (r.Data.length:Int)
    · refine⟨_,true,by rw [dt hz1],?_,fun _=>⟨hz0,hz1⟩⟩
      rw [c0 (by simp only [Bool.or_eq_false_iff,decide_eq_false_iff_not]; omega)]
      rfl
    · refine⟨_,false,by rw [df hz1],?_,fun e=>nomatch e⟩
      rw [c1 (by simp only [Bool.or_eq_true,decide_eq_true_eq]; omega)]
      rfl
  · rw [c0 (df hz0)]
    refine⟨_,false,rfl,?_,fun e=>nomatch e⟩
    rw [c1 (by simp only [Bool.or_eq_true,decide_eq_true_eq]; omega)]
    rfl
theorem part_eq {g:X8} {a:Int} (h:0≤a∧a < (g.Data.length:Int)) (hl : -1099511627776≤g.Limit∧g.Limit≤1099511627776) : ∃ p:Nat,p < 7∧O6 g a=some (p:Int)∧O8 (g.Data.length:Int) g.Limit a=some (p:Int):=by
  unfold O6 O8
  dsimp only [jn]
  rw [w64 (x:=g.Limit - 268435456) (by omega),c0 (b:=decide (a < 0) || _) (by simp only [Bool.or_eq_false_iff,decide_eq_false_iff_not]; omega),c0 (b:=decide (a < 0) || _) (by simp only [Bool.or_eq_false_iff,decide_eq_false_iff_not]; omega)]
  by_cases p0:a < 4
  · exact⟨0,by omega,c1 (dt p0),c1 (dt (by omega))⟩
  rw [c0 (df p0),c0 (b:=decide (a≤3)) (df (by omega))]
  by_cases p1:a < 12
  · exact⟨1,by omega,c1 (dt p1),c1 (dt (by omega))⟩
  rw [c0 (df p1),c0 (b:=decide (a≤11)) (df (by omega))]
  by_cases p2:128≤a∧a < 384
  · exact⟨2,by omega,c1 (by simp [p2]),c1 (by simp only [Bool.and_eq_true,decide_eq_true_eq]; omega)⟩
  rw [c0 (b:=decide (128≤a)&&decide (a < 384)) (by simp only [Bool.and_eq_false_iff,decide_eq_false_iff_not]; omega),c0 (b:=decide (128≤a)&&decide (a≤383)) (by simp only [Bool.and_eq_false_iff,decide_eq_false_iff_not]; omega)]
  by_cases p3:384≤a∧a < 1152
  · exact⟨3,by omega,c1 (by simp [p3]),c1 (by simp only [Bool.and_eq_true,decide_eq_true_eq]; omega)⟩
  rw [c0 (b:=decide (384≤a)&&decide (a < 1152)) (by simp only [Bool.and_eq_false_iff,decide_eq_false_iff_not]; omega),c0 (b:=decide (384≤a)&&decide (a≤1151)) (by simp only [Bool.and_eq_false_iff,decide_eq_false_iff_not]; omega)]
  by_cases p4:a < 1152
  · refine⟨6,by omega,?_,c1 (dt p4)⟩
    rw [c0 (by simp only [Bool.and_eq_false_iff,decide_eq_false_iff_not]; omega),c0 (by simp only [Bool.and_eq_false_iff,decide_eq_false_iff_not]; omega)]
    rfl
  rw [c0 (b:=decide (a < 1152)) (df p4)]
  by_cases p5:a < g.Limit - 268435456
  · exact⟨4,by omega,c1 (by simp only [Bool.and_eq_true,decide_eq_true_eq]; omega),c1 (dt p5)⟩
  refine⟨5,by omega,?_,c0 (df p5)⟩
  rw [c0 (by simp only [Bool.and_eq_false_iff,decide_eq_false_iff_not]; omega),c1 (by simp only [Bool.and_eq_true,decide_eq_true_eq]; omega)]
  rfl
theorem loop_two {S1 S2 R1 R2:Type} {b1:S1→Option (Lp S1 R1)} {b2:S2→Option (Lp S2 R2)} (I:S1→S2→Prop) (μ : S2→Nat) (Q:S1→S2→Prop)
    (hstep : ∀ s1 s2,I s1 s2→(∃ s1' s2',b1 s1=some (.go s1')∧b2 s2=some (.go s2')∧I s1' s2' ∧ μ s2' < μ s2) ∨ (∃ s1' s2',b1 s1=some (.brk s1')∧b2 s2=some (.brk s2')∧Q s1' s2')) :
    ∀(n1 n2:Nat) (s1:S1) (s2:S2),I s1 s2 → μ s2 < n1 → μ s2 < n2 → ∃ s1' s2',Y9 b1 n1 s1=some (.brk s1')∧Y9 b2 n2 s2=some (.brk s2')∧Q s1' s2' := by
  intro n1
  induction n1 with
  | zero=>intro n2 s1 s2 _ h; omega
  | succ n1 ih =>
    intro n2 s1 s2 hI h1 h2
    cases n2 with
    | zero=>omega
    | succ n2 =>
      rcases hstep s1 s2 hI with ⟨s1',s2',e1,e2,hI',hm⟩ | ⟨s1',s2',e1,e2,hQ⟩
      · obtain⟨t1,t2,f1,f2,hq⟩:=ih n2 s1' s2' hI' (by omega) (by omega)
        refine⟨t1,t2,?_,?_,hq⟩
        · simp only [Y9,e1]; exact f1
        · simp only [Y9,e2]; exact f2
      · refine⟨s1',s2',?_,?_,hQ⟩
        · simp only [Y9,e1]
        · simp only [Y9,e2]
theorem Z7g {a:Int} {x:List Int} : sub (a::x) 1 (List.length (a::x):Int)=some x:=by
  unfold sub
  rw [if_pos (by simp; omega)]
  simp
theorem Z7j {A:Type} {s:Int} {l:List Int} (hl:l.length≤1000000) {m:Option Int} (hs:m=some s) {K:Lp (List Int) Unit→Option A} {X:Option A} (hK:K (.brk (l.dropWhile fun x=>decide (x < s)))=X) :
    (Y9 (fun(x9:List Int)=>(bif decide (0 < (List.length x9:Int)) then ((idx x9 0).bind fun u1=>m.bind fun y3=>bif decide (u1 < y3) then ((sub x9 1 (List.length x9:Int)).bind fun u2=>some (Lp.go u2)) else (some (Lp.brk x9))) else (some (Lp.brk x9)):Option (Lp ((List Int)) (Unit)))) NN l).bind K=X:=by
  refine Z4v (fun x=>(x.dropWhile fun x=>decide (x < s))=(l.dropWhile fun x=>decide (x < s))) (fun x=>x.length) (fun o=>o = .brk (l.dropWhile fun x=>decide (x < s))) rfl (Q8j (by omega)) ?_ ?_
  · intro x hx
    cases x with
    | nil=>exact⟨.brk [],rfl,by rw [← hx]; rfl⟩
    | cons a x =>
      have e0:idx (a::x) 0=some a:=rfl
      rw [c1 (dt (by simp)),e0,Option.bind_some,hs,Option.bind_some]
      by_cases h:a < s
      · refine⟨.go x,by rw [c1 (dt h),Z7g]; rfl,?_,by simp⟩
        rw [← hx]
        simp [h]
      · refine⟨.brk (a::x),c0 (df h),?_⟩
        rw [← hx]
        simp [h]
  · rintro o rfl
    exact hK
theorem skip_ref {s:Int} {L:List Int} (hL:L.length≤1000000) {k:Nat} (hk:k≤L.length) : ∃ k' : Nat,k≤k' ∧ k' ≤ L.length∧L.drop k' = ((L.drop k).dropWhile fun x=>decide (x < s)) ∧
    Y9 (fun(x11:Int)=>(bif decide (x11 < (List.length L:Int)) then ((idx L x11).bind fun u3=>bif decide (u3 < s) then (some (Lp.go (IntKind.wrap .i64 (x11+1)))) else (some (Lp.brk x11))) else (some (Lp.brk x11)):Option (Lp (Int) (Unit)))) NN (k:Int)=some (.brk (k' : Int)):=by
  have H : ∃ o,Y9 (fun(x11:Int)=>(bif decide (x11 < (List.length L:Int)) then ((idx L x11).bind fun u3=>bif decide (u3 < s) then (some (Lp.go (IntKind.wrap .i64 (x11+1)))) else (some (Lp.brk x11))) else (some (Lp.brk x11)):Option (Lp (Int) (Unit)))) NN (k:Int)=some o ∧ ∃ k' : Nat,k≤k' ∧ k' ≤ L.length∧L.drop k' = ((L.drop k).dropWhile fun x=>decide (x < s))∧o = .brk (k' : Int):=by
    refine Y2j
      (fun x => ∃ j:Nat,x=(j:Int)∧k≤j∧j≤L.length∧((L.drop j).dropWhile fun x=>decide (x < s))=((L.drop k).dropWhile fun x=>decide (x < s))) (fun x=>L.length - x.toNat)
      (fun o => ∃ k' : Nat,k≤k' ∧ k' ≤ L.length∧L.drop k' = ((L.drop k).dropWhile fun x=>decide (x < s))∧o = .brk (k' : Int)) ⟨k,rfl,Nat.le_refl _,hk,rfl⟩ (Q8j (by omega)) ?_
    rintro x ⟨j,rfl,hkj,hj,hd⟩
    by_cases hl:j < L.length
    · rw [c1 (dlt hl),F2 hl,Option.bind_some]
      have hc:L.drop j=L[j]::L.drop (j+1):=List.drop_eq_getElem_cons hl
      by_cases h:L[j] < s
      · refine⟨_,c1 (dt h),⟨j+1,by rw [w64 (by omega)]; omega,by omega,by omega,?_⟩,by rw [w64 (by omega)]; omega⟩
        rw [← hd,hc,List.dropWhile_cons_of_pos (by simpa using h)]
      · refine⟨_,c0 (df h),j,hkj,hj,?_,rfl⟩
        rw [← hd,hc,List.dropWhile_cons_of_neg (by simpa using h)]
    · have:j=L.length:=by omega
      subst this
      refine⟨_,c0 (dge _),L.length,hk,Nat.le_refl _,?_,rfl⟩
      rw [← hd]
      simp
  obtain⟨o,e,k',h1,h2,h3,rfl⟩:=H
  exact⟨k',h1,h2,h3,e⟩
theorem lit7 {l:List Int} (h:l.length=7) : [List.getD l 0 0,List.getD l 1 0,List.getD l 2 0,List.getD l 3 0,List.getD l 4 0,List.getD l 5 0,List.getD l 6 0]=l:=by
  match l,h with
  | [a,b,c,d,e,f,g],_=>rfl
def ybT (p0:X8) (sx:Int×Z7) (x4:Int):Option (Lp (Int×Z7) Unit):=match sx with | (x3,x2)=>(O6 p0 x4).bind fun y3=>(idx ([List.getD x2.Part 0 0,List.getD x2.Part 1 0,List.getD x2.Part 2 0,List.getD x2.Part 3 0,List.getD x2.Part 4 0,List.getD x2.Part 5 0,List.getD x2.Part 6 0]:List Int) y3).bind fun u3=>(idx ([List.getD x2.Part 0 0,List.getD x2.Part 1 0,List.getD x2.Part 2 0,List.getD x2.Part 3 0,List.getD x2.Part 4 0,List.getD x2.Part 5 0,List.getD x2.Part 6 0]:List Int) y3).bind fun u4=>(setD ([List.getD x2.Part 0 0,List.getD x2.Part 1 0,List.getD x2.Part 2 0,List.getD x2.Part 3 0,List.getD x2.Part 4 0,List.getD x2.Part 5 0,List.getD x2.Part 6 0]:List Int) y3 (IntKind.wrap .i64 (u3+1))).bind fun u5=>(idx x2.Words (IntKind.wrap .i64 (Int.tdiv x4 4))).bind fun u6=>(idx x2.Words (IntKind.wrap .i64 (Int.tdiv x4 4))).bind fun u7=>(idx x2.Words (IntKind.wrap .i64 (Int.tdiv x4 4))).bind fun u8=>(idx (List.set x2.Words (Int.toNat (IntKind.wrap .i64 (Int.tdiv x4 4))) (IntKind.wrap .i64 (u6+1))) (IntKind.wrap .i64 (Int.tdiv x4 4))).bind fun u9=>some (Lp.go (x3,(⟨u5,List.set x2.Words (Int.toNat (IntKind.wrap .i64 (Int.tdiv x4 4))) (IntKind.wrap .i64 (u6+1)),max x2.Most u9,x2.Steps,x3⟩:Z7)))
def addR (p0:X8) (x17:Int) (y4:Q0) (x19:Y5) (y3:Int):Option (Lp (Int×Q0×Y5) Unit):=(O8 (List.length p0.Data:Int) p0.Limit y3).bind fun y5=>(idx x19.Part y5).bind fun u5=>(idx x19.Part y5).bind fun u6=>(idx x19.Part y5).bind fun u7=>(idx x19.Words (IntKind.wrap .i64 (Int.tdiv y3 4))).bind fun u8=>(idx x19.Words (IntKind.wrap .i64 (Int.tdiv y3 4))).bind fun u9=>(idx x19.Words (IntKind.wrap .i64 (Int.tdiv y3 4))).bind fun u10=>(idx (List.set x19.Words (Int.toNat (IntKind.wrap .i64 (Int.tdiv y3 4))) (IntKind.wrap .i64 (u8+1))) (IntKind.wrap .i64 (Int.tdiv y3 4))).bind fun u11=>some (Lp.go (x17,y4,(⟨List.set x19.Part (Int.toNat y5) (IntKind.wrap .i64 (u5+1)),List.set x19.Words (Int.toNat (IntKind.wrap .i64 (Int.tdiv y3 4))) (IntKind.wrap .i64 (u8+1)),max x19.Most u11,x19.Steps,x19.Fails⟩:Y5)))
structure TR (g:X8) (f:Int) (a:Z7) (T:Y5) (s:Int):Prop where
  p7:T.Part.length=7
  pe:a.Part=T.Part
  we:a.Words=T.Words
  wl:(T.Words.length:Int)=(g.Data.length:Int) / 4
  me:a.Most=T.Most
  fe:f=T.Fails
  pb : ∀ x ∈ T.Part,0≤x∧x≤s
  wb : ∀ x ∈ T.Words,0≤x∧x≤s
theorem TR.up {g:X8} {f s s' : Int} {a:Z7} {T:Y5} (h:TR g f a T s) (hs:s≤s'):TR g f a T s' :=
  ⟨h.p7,h.pe,h.we,h.wl,h.me,h.fe,fun x hx=>⟨(h.pb x hx).1,by have:=(h.pb x hx).2; omega⟩,fun x hx=>⟨(h.wb x hx).1,by have:=(h.wb x hx).2; omega⟩⟩
theorem TR.add {g:X8} {f s:Int} {a:Z7} {T:Y5} (h:TR g f a T s) {x:Int} (hx:0≤x∧x < (g.Data.length:Int)) (h4:(g.Data.length:Int) % 4=0) (hl : -1099511627776≤g.Limit∧g.Limit≤1099511627776) (hs:0≤s∧s≤1000000) (hdl:(g.Data.length:Int)≤65536) :
    ∃ a' T',ybT g (f,a) x=some (.go (f,a'))∧(∀ k r,addR g k r T x=some (.go (k,r,T')))∧TR g f a' T' (s+1):=by
  obtain⟨p,hp,e1,e2⟩:=part_eq hx hl
  have hp' : p < T.Part.length:=by rw [h.p7]; exact hp
  obtain⟨q,hq⟩ : ∃ q:Nat,x / 4=(q:Int):=⟨(x / 4).toNat,by omega⟩
  have hq' : q < T.Words.length:=by have:=h.wl; omega
  have hw:IntKind.wrap .i64 (Int.tdiv x 4)=(q:Int):=by rw [Int.tdiv_eq_ediv_of_nonneg hx.1,hq]; exact w64 (by omega)
  obtain⟨v,hv⟩ : ∃ v,T.Part[p]=v:=⟨_,rfl⟩
  obtain⟨u,hu⟩ : ∃ u,T.Words[q]=u:=⟨_,rfl⟩
  have hvb:=h.pb v (hv ▸ List.getElem_mem hp')
  have hub:=h.wb u (hu ▸ List.getElem_mem hq')
  have i1:idx T.Part (p:Int)=some v:=by rw [F2 hp',hv]
  have i2:idx T.Words (q:Int)=some u:=by rw [F2 hq',hu]
  have i3:idx (T.Words.set q (u+1)) (q:Int)=some (u+1):=by rw [F2 (by rw [List.length_set]; exact hq'),List.getElem_set_self]
  refine⟨⟨T.Part.set p (v+1),T.Words.set q (u+1),max a.Most (u+1),a.Steps,f⟩,⟨T.Part.set p (v+1),T.Words.set q (u+1),max T.Most (u+1),T.Steps,T.Fails⟩,?_,fun k r => ?_,⟨?_,rfl,rfl,?_,?_,h.fe,?_,?_⟩⟩
  · unfold ybT
    dsimp only
    rw [lit7 (by rw [h.pe]; exact h.p7),e1,Option.bind_some,h.pe,h.we,i1,Option.bind_some,Option.bind_some,w64 (x:=v+1) (by omega)]
    unfold setD
    rw [Option.bind_some,hw,i2,Option.bind_some,Option.bind_some,Option.bind_some,w64 (x:=u+1) (by omega),Int.toNat_natCast,Int.toNat_natCast,i3,Option.bind_some]
  · unfold addR
    rw [e2,Option.bind_some,i1,Option.bind_some,Option.bind_some,Option.bind_some,hw,i2,Option.bind_some,Option.bind_some,Option.bind_some,w64 (x:=v+1) (by omega),w64 (x:=u+1) (by omega),Int.toNat_natCast,Int.toNat_natCast,i3,Option.bind_some]
  · show(T.Part.set p (v+1)).length=7
    rw [List.length_set]; exact h.p7
  · show((T.Words.set q (u+1)).length:Int)=_
    rw [List.length_set]; exact h.wl
  · show max a.Most (u+1)=max T.Most (u+1)
    rw [h.me]
  · intro z hz
    rcases List.mem_or_eq_of_mem_set hz with hz | rfl
    · exact⟨(h.pb z hz).1,by have:=(h.pb z hz).2; omega⟩
    · omega
  · intro z hz
    rcases List.mem_or_eq_of_mem_set hz with hz | rfl
    · exact⟨(h.wb z hz).1,by have:=(h.wb z hz).2; omega⟩
    · omega
def tD (g:X8) (x13:Int) (x14:Z7) (x15:Q1) (x16:List Int):Option (Lp (Int×Z7×Q1×(List Int)) ((Lp (Int×Z7) Unit)×Q1×(List Int))):=(H5 g x15).bind fun y6=>(Y1 x15).bind fun y7=>(K4 x15).bind fun y8=>bif y6.2 then ((Y1 y8.2).bind fun y9=>bif decide (y7 < y9) then ((ybT g (x13,x14) y6.1).bind fun z1=>Lp.gone z1 (fun sg1=>some (Lp.go (sg1.1,sg1.2,y8.2,x16))) (some (Lp.ret (z1,y8.2,x16)))) else (some (Lp.go (x13,x14,y8.2,x16)))) else (some (Lp.go (x13,x14,y8.2,x16)))
def tR (g:X8) (x17:Int) (x18:Q0) (x19:Y5):Option (Lp (Int×Q0×Y5) Unit):=(H6 x18).bind fun y3=>(U6 x18).bind fun y4=>jn (fun kk4=>kk4 ((decide (0≤y3))&&(decide (x18.Steps < y4.Steps)))) (fun(x20:Bool)=>bif x20 then (addR g x17 y4 x19 y3) else (some (Lp.go (x17,y4,x19))))
def bD (g:X8) (n:Int):Int×Z7×Q1×(List Int)→Option (Lp (Int×Z7×Q1×(List Int)) ((Lp (Int×Z7) Unit)×Q1×(List Int))):=fun(x4,x5,x6,x7)=>((V6 x6).bind fun y1=>bif y1 == 0 then ((Y1 x6).bind fun y2=>bif decide (y2 < n) then (jn (fun kk1=>(Y9 (fun(x9:List Int)=>(bif decide (0 < (List.length x9:Int)) then ((idx x9 0).bind fun u1=>(Y1 x6).bind fun y3=>bif decide (u1 < y3) then ((sub x9 1 (List.length x9:Int)).bind fun u2=>some (Lp.go u2)) else (some (Lp.brk x9))) else (some (Lp.brk x9)):Option (Lp ((List Int)) (Unit)))) NN x7).bind fun o=>o.thn (fun(x9:List Int)=>kk1 x9) (fun _=>none)) (fun(x8:List Int)=>jn (fun kk2=>jn (fun kk3=>bif decide (0 < (List.length x8:Int)) then ((idx x8 0).bind fun u3=>(Y1 x6).bind fun y4=>kk3 (u3 == y4)) else (kk3 false)) (fun(x17:Bool)=>bif x17 then ((G1 x6).bind fun y5=>(sub x8 1 (List.length x8:Int)).bind fun u4=>kk2 (IntKind.wrap .i64 (x4+1)) x5 y5 u4) else (kk2 x4 x5 x6 x8))) (fun(x13:Int) (x14:Z7) (x15:Q1) (x16:List Int)=>tD g x13 x14 x15 x16))) else (some (Lp.brk (x4,x5,x6,x7)))) else (some (Lp.brk (x4,x5,x6,x7))))
def bR (g:X8) (L:List Int) (n:Int):Int×Q0×Y5→Option (Lp (Int×Q0×Y5) Unit):=fun(x7,x8,x9)=>(bif ((x8.State == 0)&&(decide (x8.Steps < n))) then (jn (fun kk2=>(Y9 (fun(x11:Int)=>(bif decide (x11 < (List.length L:Int)) then ((idx L x11).bind fun u3=>bif decide (u3 < x8.Steps) then (some (Lp.go (IntKind.wrap .i64 (x11+1)))) else (some (Lp.brk x11))) else (some (Lp.brk x11)):Option (Lp (Int) (Unit)))) NN x7).bind fun o=>o.thn (fun(x11:Int)=>kk2 x11) (fun _=>none)) (fun(x10:Int)=>jn (fun kk3=>bif decide (x10 < (List.length L:Int)) then ((idx L x10).bind fun u4=>bif u4 == x8.Steps then ((G2 x8).bind fun y2=>kk3 (IntKind.wrap .i64 (x10+1)) y2 ({x9 with Fails:=IntKind.wrap .i64 (x9.Fails+1)})) else (kk3 x10 x8 x9)) else (kk3 x10 x8 x9)) (fun(x17:Int) (x18:Q0) (x19:Y5)=>tR g x17 x18 x19))) else (some (Lp.brk (x7,x8,x9))))
theorem Z4k {g:X8} {r:Q0} {t:List Y7} (hG:Gd r t) (hc:g.Code=r.Code) (hd:g.Data.length=r.Data.length) {f:Int} {a:Z7} {T:Y5} (hT:TR g f a T r.Steps) (hst:r.Steps≤999999)
    (h4:(g.Data.length:Int) % 4=0) (hl : -1099511627776≤g.Limit∧g.Limit≤1099511627776) (h0:r.State=0) (k:Int) (l:List Int) :
    ∃ a' T' t',tD g f a (dm r t) l=some (.go (f,a',dm (sp r) t',l))∧tR g k r T=some (.go (k,sp r,T'))∧Gd (sp r) t' ∧ TR g f a' T' (sp r).Steps∧T'.Fails=T.Fails:=by
  obtain⟨x,b,e1,e2,e3⟩:=Z7t (t:=t) hG.1 hc hd
  obtain⟨s1,⟨t',z,s2,s3⟩,s4,s5⟩:=Z5t hG (by omega)
  have hs4:=s4 h0
  have hdl:=hG.1.dl
  have hs0:=hG.1.st
  unfold tD tR
  dsimp only [jn]
  rw [e1,Option.bind_some,Q2k hG,Option.bind_some,s2,Option.bind_some,e2,Option.bind_some,s1,Option.bind_some]
  cases b with
  | false=>exact⟨a,T,t',rfl,c0 (by rfl),s3,hT.up (by omega),rfl⟩
  | true =>
    obtain⟨x0,x1⟩:=e3 rfl
    dsimp only
    rw [c1 (b:=true) rfl,Q2k s3,Option.bind_some]
    by_cases hlt:r.Steps < (sp r).Steps
    · obtain⟨a',T',y1,y2,y3⟩:=hT.add (x:=x) ⟨x0,by rw [hd]; exact x1⟩ h4 hl (by omega) (by rw [hd]; omega)
      have e:(sp r).Steps=r.Steps+1:=by omega
      refine⟨a',T',t',?_,?_,s3,by rw [e]; exact y3,?_⟩
      · rw [c1 (dt hlt),y1,Option.bind_some]; rfl
      · rw [c1 (b:=decide (0≤bif true then x else -1)&&decide (r.Steps < (sp r).Steps)) (by simp only [Bool.and_eq_true,decide_eq_true_eq]; exact⟨x0,hlt⟩)]
        exact y2 k (sp r)
      · rw [← y3.fe,← hT.fe]
    · refine⟨a,T,t',c0 (df hlt),c0 (by simp only [Bool.and_eq_false_iff,decide_eq_false_iff_not]; exact .inr hlt),s3,hT.up (by omega),rfl⟩
def WI (g:X8) (L:List Int):Int×Z7×Q1×(List Int)→Int×Q0×Y5→Prop:=fun s1 s2 =>
  ∃(t:List Y7) (k:Nat),s1.2.2.1=dm s2.2.1 t∧Gd s2.2.1 t∧g.Code=s2.2.1.Code∧g.Data.length=s2.2.1.Data.length∧s2.1=(k:Int)∧k≤L.length∧s1.2.2.2=L.drop k∧TR g s1.1 s1.2.1 s2.2.2 s2.2.1.Steps∧0≤s2.2.2.Fails∧s2.2.2.Fails≤(k:Int)
theorem Y2a {g:X8} {L:List Int} {n:Int} (hL:L.length≤100000) (hn:n≤600) (h4:(g.Data.length:Int) % 4=0) (hl : -1099511627776≤g.Limit∧g.Limit≤1099511627776) :
    ∀ s1 s2,WI g L s1 s2→(∃ s1' s2',bD g n s1=some (.go s1')∧bR g L n s2=some (.go s2')∧WI g L s1' s2' ∧ muR n s2'.2.1 < muR n s2.2.1) ∨ (∃ s1' s2',bD g n s1=some (.brk s1')∧bR g L n s2=some (.brk s2')∧(s1' = s1∧s2' = s2∧WI g L s1 s2)):=by
  rintro⟨x4,x5,x6,x7⟩ ⟨kk,r,T⟩ ⟨t,k,h1,hG,hc,hd,h5,hk,h6,hT,hf,hfk⟩
  dsimp only at h1 hG hc hd h5 h6 hT hf hfk
  subst h1 h5 h6
  have hst:V6 (dm r t)=some r.State:=by
    unfold V6
    rw [J9 (show (dm r t).volatile.regs.length=32 from hG.1.rl),Option.bind_some]
    rfl
  by_cases hrun:r.State=0∧r.Steps < n
  case neg =>
    right
    refine⟨_,_,?_,?_,rfl,rfl,⟨t,k,rfl,hG,hc,hd,rfl,hk,rfl,hT,hf,hfk⟩⟩
    · unfold bD
      dsimp only
      rw [hst,Option.bind_some]
      by_cases h0:r.State=0
      · rw [c1 (by simpa using h0),Q2k hG,Option.bind_some,c0 (df (by omega))]
      · rw [c0 (by simpa using h0)]
    · unfold bR
      dsimp only
      rw [c0 (by simp only [Bool.and_eq_false_iff,decide_eq_false_iff_not,beq_eq_false_iff_ne]; omega)]
  left
  obtain⟨h0,hlt⟩:=hrun
  obtain⟨k1,k2,k3,hdrop,hloop⟩:=skip_ref (s:=r.Steps) (L:=L) (by omega) hk
  have mu : ∀ r1:Q0,r1.State=0→r1.Steps=r.Steps→((sp r1).Steps=r1.Steps+1 ∨ ((sp r1).Steps=r1.Steps∧(sp r1).State=2))→muR n (sp r1) < muR n r:=by
    intro r1 a1 a2 a3
    have:=muR_sp (n:=n) (r:=r1) ⟨a1,by omega⟩ a3
    unfold muR at this ⊢
    rw [a2,if_pos a1] at this
    rw [if_pos h0]
    exact this
  unfold bD bR
  dsimp only [jn]
  rw [hst,Option.bind_some,c1 (b:=r.State == 0) (by simpa using h0),Q2k hG,Option.bind_some,c1 (dt hlt),c1 (b:=(r.State == 0)&&decide (r.Steps < n)) (by simp [h0,hlt]),hloop,Option.bind_some]
  by_cases hfail : ∃ h:k1 < L.length,L[k1]=r.Steps
  · obtain⟨hk1,he⟩:=hfail
    have hcons:L.drop k1=r.Steps::L.drop (k1+1):=by rw [List.drop_eq_getElem_cons hk1,he]
    obtain⟨g1,g2,g3⟩:=Y1h r
    have hG' := gd_fl hG
    have gD:(fl r).Data=r.Data:=by unfold fl; split <;> rfl
    have hT' : TR g (x4+1) x5 {T with Fails:=T.Fails+1} (fl r).Steps:=by rw [g1]; exact⟨hT.p7,hT.pe,hT.we,hT.wl,hT.me,by show x4+1=T.Fails+1; rw [hT.fe],hT.pb,hT.wb⟩
    obtain⟨a',T',t',y1,y2,y3,y4,y5⟩:=Z4k hG' (by rw [g3]; exact hc) (by rw [gD]; exact hd) hT' (by rw [g1]; omega) h4 hl (by rw [g2]; exact h0) ((k1+1:Nat):Int) (L.drop (k1+1))
    obtain⟨_,_,z4,z5⟩:=Z5t hG' (by rw [g1]; omega)
    have hw:IntKind.wrap .i64 (x4+1)=x4+1:=w64 (by have:=hT.fe; omega)
    have hw2:IntKind.wrap .i64 (T.Fails+1)=T.Fails+1:=w64 (by omega)
    have hw3:IntKind.wrap .i64 ((k1:Int)+1)=((k1+1:Nat):Int):=by rw [w64 (by omega)]; omega
    refine⟨(x4+1,a',dm (sp (fl r)) t',L.drop (k1+1)),(((k1+1:Nat):Int),sp (fl r),T'),?_,?_,⟨t',k1+1,rfl,y3,by rw [z5.1,g3]; exact hc,by rw [z5.2,gD]; exact hd,rfl,by omega,rfl,y4,by rw [y5]; show 0≤T.Fails+1; omega,by rw [y5]; show T.Fails+1≤((k1+1:Nat):Int); omega⟩,mu (fl r) (by rw [g2]; exact h0) g1 (z4 (by rw [g2]; exact h0))⟩
    · refine Z7j (s:=r.Steps) (l:=L.drop k) (by rw [List.length_drop]; omega) rfl ?_
      rw [← hdrop,hcons]
      show(bif decide (0 < (List.length (r.Steps::L.drop (k1+1)):Int)) then _ else _)=_
      rw [c1 (dt (by simp <;> omega))]
      show((some r.Steps:Option Int).bind _)=_
      rw [Option.bind_some,Option.bind_some,c1 (b:=r.Steps == r.Steps) (by simp),fl_dev hG.1,Option.bind_some,Z7g,Option.bind_some,hw]
      exact y1
    · show(bif decide ((k1:Int) < (L.length:Int)) then _ else _)=_
      rw [c1 (dlt hk1),F2 hk1,Option.bind_some,he,c1 (by simp),fl_ref,Option.bind_some,hw3,hw2]
      exact y2
  · obtain⟨a',T',t',y1,y2,y3,y4,y5⟩:=Z4k hG hc hd hT (by omega) h4 hl h0 (k1:Int) (L.drop k1)
    obtain⟨_,_,z4,z5⟩:=Z5t hG (by omega)
    refine⟨(x4,a',dm (sp r) t',L.drop k1),((k1:Int),sp r,T'),?_,?_,⟨t',k1,rfl,y3,by rw [z5.1]; exact hc,by rw [z5.2]; exact hd,rfl,k3,rfl,y4,by rw [y5]; exact hf,by rw [y5]; omega⟩,mu r h0 rfl (z4 h0)⟩
    · refine Z7j (s:=r.Steps) (l:=L.drop k) (by rw [List.length_drop]; omega) rfl ?_
      rw [← hdrop]
      by_cases hk1:k1 < L.length
      · have hcons:L.drop k1=L[k1]::L.drop (k1+1):=List.drop_eq_getElem_cons hk1
        have hne:L[k1] ≠ r.Steps:=fun e=>hfail ⟨hk1,e⟩
        show(bif decide (0 < (List.length (L.drop k1):Int)) then ((idx (L.drop k1) 0).bind _) else _)=_
        have e0:idx (L.drop k1) 0=some L[k1]:=by rw [hcons]; rfl
        rw [c1 (dt (by rw [List.length_drop]; omega)),e0,Option.bind_some,Option.bind_some,c0 (b:=L[k1] == r.Steps) (by simpa using hne)]
        exact y1
      · have hnil:L.drop k1 = []:=List.drop_eq_nil_of_le (by omega)
        show(bif decide (0 < (List.length (L.drop k1):Int)) then _ else _)=_
        rw [c0 (df (by rw [hnil]; simp))]
        exact y1
    · by_cases hk1:k1 < L.length
      · have hne:L[k1] ≠ r.Steps:=fun e=>hfail ⟨hk1,e⟩
        show(bif decide ((k1:Int) < (L.length:Int)) then _ else _)=_
        rw [c1 (dlt hk1),F2 hk1,Option.bind_some,c0 (by simpa using hne)]
        exact y2
      · show(bif decide ((k1:Int) < (L.length:Int)) then _ else _)=_
        rw [c0 (df (by omega))]
        exact y2
theorem Z9i (g:X8) (a:Z7) (m:Q1) (n:Int) (L:List Int):I3 (ybT g) a m n L 0 g=(Y9 (bD g n) NN ((0:Int),a,m,L)).bind fun o=>o.thn (fun(x4,x5,x6,x7)=>some ((Lp.go (x4,x5):Lp (Int×Z7) Unit),x6,x7)) (fun r=>some r):=rfl
theorem Y0e (g:X8) (i L:List Int) (n:Int):W8 g i L n=(H7 g.Code g.Data i).bind fun y1=>(Q3w 7 (0:Int)).bind fun u1=>(Q3w (IntKind.wrap .i64 (Int.tdiv (List.length g.Data:Int) 4)) (0:Int)).bind fun u2=>(Y9 (bR g L n) NN ((0:Int),y1,(⟨u1,u2,0,0,0⟩:Y5))).bind fun o=>o.thn (fun(x7,x8,x9)=>some ({x9 with Steps:=x8.Steps})) (fun _=>none):=rfl
theorem Z4j (g:X8) (i L:List Int) (n:Int):O7 g i L n=(S6 g i).bind fun y1=>exC y1 (fun y1=>bif y1 != 0 then (some ((⟨([0,0,0,0,0,0,0]:List Int),[],0,0,0⟩:Z7),y1)) else ((Q3w (IntKind.wrap .i64 (Int.tdiv (List.length g.Data:Int) 4)) (0:Int)).bind fun u1=>none)) (fun e1=>bif e1.2 != 0 then (some ((⟨([0,0,0,0,0,0,0]:List Int),[],0,0,0⟩:Z7),e1.2)) else ((Q3w (IntKind.wrap .i64 (Int.tdiv (List.length g.Data:Int) 4)) (0:Int)).bind fun u2=>(I3 (ybT g) (⟨([0,0,0,0,0,0,0]:List Int),u2,0,0,0⟩:Z7) e1.1 n L 0 g).bind fun o=>Lp.gone o.1 (fun(x3,x2)=>(Y1 o.2.1).bind fun y4=>some ({x2 with Steps:=y4,Fails:=x3},(0:Int))) none)):=rfl
theorem same34 {a:Z7} {T:Y5} (hp:a.Part=T.Part) (h7:T.Part.length=7) (hw:a.Words=T.Words) (hwl:T.Words.length≤1000000) (hm:a.Most=T.Most) (hs:a.Steps=T.Steps) (hf:a.Fails=T.Fails):S4 a T=some true:=by
  unfold S4
  rw [hp,lit7 h7,hw,hm,hs,hf,c0 (by simp)]
  refine Z8e (n:=7) (by omega) (fun _=>true) false (fun k hk _ => ?_) (c0 (by rfl)) (fun _ => ?_) (fun⟨k,_,e⟩=>nomatch e)
  · rw [c1 (dt (by omega)),F2 (by omega),Option.bind_some,Option.bind_some,c0 (by simp)]
    rfl
  · show(Y9 _ NN (0:Int)).bind _=_
    refine Z8e (n:=T.Words.length) (by omega) (fun _=>true) false (fun k hk _ => ?_) (c0 (dge _)) (fun _=>rfl) (fun⟨k,_,e⟩=>nomatch e)
    rw [c1 (dlt hk),F2 hk,Option.bind_some,Option.bind_some,c0 (by simp)]
    rfl
theorem Z8q {g:X8} {i L:List Int} {n:Int} (h:Z3a g.Code.length g.Data.length=false) (hc:g.Code.length≤200) (hd:g.Data.length≤3000) (hi:i.length≤40) (hL:L.length≤100) (hn:n≤600) (hl : -1099511627776≤g.Limit∧g.Limit≤1099511627776)
    (wc : ∀ x ∈ g.Code,Wd x) (wd : ∀ x ∈ g.Data,0≤x∧x < 256) (wi : ∀ x ∈ i,Wd x) : ∃ a T,O7 g i L n=some (a,0)∧W8 g i L n=some T∧S4 a T=some true:=by
  have gd:=gd_beg h wc wd wi hi
  have h4:(g.Data.length:Int) % 4=0:=by
    unfold Z3a at h
    simp only [Bool.or_eq_false_iff,bne_eq_false_iff_eq] at h
    have:=h.2
    rwa [Int.tmod_eq_emod_of_nonneg (by omega)] at this
  have hw:IntKind.wrap .i64 (Int.tdiv (g.Data.length:Int) 4)=(g.Data.length:Int) / 4:=by rw [Int.tdiv_eq_ediv_of_nonneg (by omega)]; exact w64 (by omega)
  obtain⟨z,hz⟩ : ∃ z,z=List.replicate ((g.Data.length:Int) / 4).toNat (0:Int):=⟨_,rfl⟩
  have hr:Q3w (IntKind.wrap .i64 (Int.tdiv (g.Data.length:Int) 4)) (0:Int)=some z:=by rw [hw,hz]; unfold Q3w; rw [if_pos (by omega)]
  have h7:Q3w 7 (0:Int)=some [0,0,0,0,0,0,0]:=by unfold Q3w; rw [if_pos (by omega)]; rfl
  have hzl:(z.length:Int)=(g.Data.length:Int) / 4:=by rw [hz,List.length_replicate]; omega
  obtain⟨⟨x4,x5,x6,x7⟩,⟨k,r,T⟩,e1,e2,t,k',q1,q2,q3,q4,q5,q6,q7,q8,q9,q10⟩:=loop_two (WI g L) (fun s=>muR n s.2.1) (WI g L) (fun s1 s2 hI=>by
      rcases Y2a (n:=n) (L:=L) (by omega) hn h4 hl s1 s2 hI with ⟨s1',s2',a1,a2,a3,a4⟩ | ⟨s1',s2',a1,a2,a3,a4,a5⟩
      · exact .inl ⟨s1',s2',a1,a2,a3,a4⟩
      · exact .inr ⟨s1',s2',a1,a2,by rw [a3,a4]; exact a5⟩) NN NN ((0:Int),(⟨[0,0,0,0,0,0,0],z,0,0,0⟩:Z7),dm (beg g.Code g.Data i) (met0 g.Code),L) ((0:Int),beg g.Code g.Data i,(⟨[0,0,0,0,0,0,0],z,0,0,0⟩:Y5))
      ⟨met0 g.Code,0,rfl,gd,rfl,rfl,rfl,by omega,rfl,⟨rfl,rfl,rfl,hzl,rfl,rfl,(by intro x hx; obtain rfl:x=0:=(by simpa using hx); exact⟨Int.le_refl _,Int.le_refl _⟩),by intro x hx; rw [hz] at hx; obtain rfl:=(List.mem_replicate.1 hx).2; exact⟨Int.le_refl _,Int.le_refl _⟩⟩,Int.le_refl _,Int.le_refl _⟩
      (Q8j (by show muR n (beg g.Code g.Data i) < _; unfold muR; have:(beg g.Code g.Data i).Steps=0:=rfl; rw [this]; split <;> omega)) (Q8j (by show muR n (beg g.Code g.Data i) < _; unfold muR; have:(beg g.Code g.Data i).Steps=0:=rfl; rw [this]; split <;> omega))
  dsimp only at q1 q2 q3 q4 q5 q6 q7 q8 q9 q10
  refine⟨{x5 with Steps:=r.Steps,Fails:=x4},{T with Steps:=r.Steps},?_,?_,same34 q8.pe q8.p7 q8.we (by show T.Words.length≤_; have:=q8.wl; omega) q8.me rfl q8.fe⟩
  · rw [Z4j]
    unfold S6
    rw [New_ok h hc hd hi,Option.bind_some]
    dsimp only [exC,Option.bind_some]
    rw [c0 (by rfl),hr,Option.bind_some,Z9i,e1,Option.bind_some]
    dsimp only [Lp.thn,Lp.gone,Option.bind_some]
    rw [q1,Q2k q2,Option.bind_some]
  · rw [Y0e,Begin_eq hd,Option.bind_some,h7,Option.bind_some,hr,Option.bind_some,e2,Option.bind_some]
    rfl
theorem wear_bad {g:X8} {i l:List Int} {N:Int} (h:Z3a g.Code.length g.Data.length=true):O7 g i l N=some (⟨[0,0,0,0,0,0,0],[],0,0,0⟩,1):=by
  rw [Z4j]
  unfold S6
  rw [New_bad h]
  rfl
theorem Z3l (g:X8) (i:List Int) (x:I2) (wc : ∀ x ∈ g.Code,Wd x) (wd : ∀ x ∈ g.Data,0≤x∧x < 256) (wi : ∀ x ∈ i,Wd x) (ha:Q0g=some true):D9 g i x=some true:=by
  unfold D9
  by_cases hb:200 < g.Code.length ∨ 3000 < g.Data.length ∨ 40 < i.length ∨ 100 < x.L.length ∨ 600 < x.N ∨ 1099511627776 < g.Limit ∨ g.Limit < -1099511627776
  · rw [c1 (by simp only [Bool.or_eq_true,decide_eq_true_iff]; omega),ha]
    rfl
  rw [c0 (by simp only [Bool.or_eq_false_iff,decide_eq_false_iff_not]; omega),May_eq]
  cases hB:Z3a g.Code.length g.Data.length with
  | true =>
    rw [wear_bad hB]
    dsimp only [Option.bind_some,cond_true]
    rw [c0 (by rfl),c1 (by rfl),ha]
    rfl
  | false =>
    obtain⟨a,T,e1,e2,e3⟩:=Z8q (L:=x.L) (n:=x.N) hB (by omega) (by omega) (by omega) (by omega) (by omega) (by omega) wc wd wi
    rw [e1]
    dsimp only [Option.bind_some,cond_false]
    rw [c0 (by rfl),c0 (by rfl),ha]
    dsimp only [Option.bind_some,cond_true]
    rw [e2,Option.bind_some,e3]
    rfl
end Go.Proofs.YtecakklofhfphaaGreatDoor
