/- WearCounts: the row. The law returns true at every input that can be read; its arguments read afterwards as before. No condition. -/
import Derived.Test.YtecakklofhfphaaGreatDoorKFWearCounts
import Derived.Test.YtecakklofhfphaaGreatDoorRows
import Derived.Test.YtecakklofhfphaaGreatDoorKRow
import Derived.Test.YtecakklofhfphaaGreatDoorKW
import Derived.Test.YtecakklofhfphaaGreatDoorKJ34
import Derived.Test.YtecakklofhfphaaGreatDoorKGi
import Derived.Test.YtecakklofhfphaaGreatDoorKLd
import Derived.Test.YtecakklofhfphaaGreatDoorKTy
import Derived.Test.YtecakklofhfphaaGreatDoorCards
import Derived.SevenTiedAt
import Derived.ShutString
import Derived.ChangeOld
import Derived.Below
import Derived.OpenShut
set_option linter.unusedVariables false
namespace Go.Proofs.YtecakklofhfphaaGreatDoor
open Go.ChangeShapes Go.WideShapes Go.ChangeAt Go.RowKit
open Go.ChangeMaps (open_string shut_string)
namespace rowWearCounts
theorem own:ownKnob Tryz.prog.godebug=none:=by kernel_rfl
theorem Z6i:laidOutB Tryz.prog=true:=lay
theorem rd59:Q5b Tryz.prog 59 (Q2 .u32) (wfI .u32):=rdInt Tryz.underlying59
theorem rd22:Q5b Tryz.prog 22 (rSl (Q2 .u32)) (fun(l:List Int)=>(∀ x ∈ l,(wfI .u32) x)∧l.length≤maxLen):=rdSl rd59 Tryz.underlying22 (by kernel_rfl) (by decide)
theorem rd5:Q5b Tryz.prog 5 (Q2 .u8) (wfI .u8):=rdInt Tryz.underlying5
theorem rd23:Q5b Tryz.prog 23 (rSl (Q2 .u8)) (fun(l:List Int)=>(∀ x ∈ l,(wfI .u8) x)∧l.length≤maxLen):=rdSl rd5 Tryz.underlying23 (by kernel_rfl) (by decide)
theorem rd3:Q5b Tryz.prog 3 (Q2 .i64) (wfI .i64):=rdInt Tryz.underlying3
theorem rd25:Q5b Tryz.prog 25 Z6a (fun(y:X8)=>(fun(l:List Int)=>(∀ x ∈ l,(wfI .u32) x)∧l.length≤maxLen) y.Code∧((fun(l:List Int)=>(∀ x ∈ l,(wfI .u8) x)∧l.length≤maxLen) y.Data∧((wfI .i64) y.Limit∧((wfI .i64) y.Notes)))):=Z7n (tot:=4) (fun p=>⟨p.1,p.2.1,p.2.2.1,p.2.2.2⟩) (fun _=>rfl) Tryz.underlying25 (by kernel_rfl) (Z0f (s:=1) rd22 rfl (by kernel_rfl) (Z0f (s:=1) rd23 rfl (by kernel_rfl) (Z0f (s:=1) rd3 rfl (by kernel_rfl) (Y0s rd3 rfl (by kernel_rfl)))))
theorem rd26:Q5b Tryz.prog 26 (rSl (Q2 .i64)) (fun(l:List Int)=>(∀ x ∈ l,(wfI .i64) x)∧l.length≤maxLen):=rdSl rd3 Tryz.underlying26 (by kernel_rfl) (by decide)
theorem rd28:Q5b Tryz.prog 28 Q5y (fun(y:I2)=>(fun(l:List Int)=>(∀ x ∈ l,(wfI .i64) x)∧l.length≤maxLen) y.L∧((wfI .i64) y.N)):=Z7n (tot:=2) (fun p=>⟨p.1,p.2⟩) (fun _=>rfl) Tryz.underlying28 (by kernel_rfl) (Z0f (s:=1) rd26 rfl (by kernel_rfl) (Y0s rd3 rfl (by kernel_rfl)))
set_option maxRecDepth 100000 in
theorem lifted (os:Os) (started:os.Started) (H:Type) (enc:TypeId×Value→H) :
    ReturnsInHanded {} Tryz.checked os 3 .any (fun w args=>(Rows.wearCountsSpec.pre enc Tryz.prog Tryz.f3 [] false w args∧laidMetH Tryz.prog Z8g w)∧sizedMet enc Tryz.prog Tryz.f3 (OpenSpec.ofChange Rows.wearCountsSpec) false w args) (Rows.wearCountsSpec.post enc Tryz.prog Tryz.f3 false true false false):=by
  refine Z8i (C:=Tryz.checked) (X:=fun w _=>laidMetH Tryz.prog Z8g w) (fun _ _ _ hh h=>h.of_heap hh) own started (by kernel_rfl) Tryz.func3
    (ChangeSpec.witness_shaped (enc:=enc) (C:=Tryz.checked) (os:=os) (X:=fun w _=>laidMetH Tryz.prog Z8g w) false (wit os) #[.agg #[.slice none 0 0,.slice none 0 0,.int .i64 0,.int .i64 0],.slice none 0 0,.agg #[.slice none 0 0,.int .i64 0]] 8 rfl (Z9a os _) (by kernel_rfl) (by kernel_rfl) (by kernel_rfl) (wit_laid os _)) ?_
  intro W base args ds gs before hval0 hW hcnd _ hL hsh _
  have lf:=Z9w hL
  have hval : ∀(j:Nat) t v,Tryz.f3.params[j]? = some t→args[j]? = some v→Value.okWide Tryz.prog W .any base t v:=hval0
  have hW' := hW
  obtain⟨p,q,hA0,hV,rfl,hfz,hnd⟩:=hW
  have hA:DataW.TrodAll enc Tryz.prog W 0 (fun _=>true) true Tryz.f3.params.toList args.toList ds p:=hA0
  rw [Tryz.params3] at hA hval
  obtain⟨v0,vs0,d0,ds0,p0,q0,hargs,rfl,rfl,h0,r0⟩:=trodAll_cons hA
  obtain⟨v1,vs1,d1,ds1,p1,q1,rfl,rfl,rfl,h1,r1⟩:=trodAll_cons r0
  obtain⟨v2,vs2,d2,ds2,p2,q2,rfl,rfl,rfl,h2,r2⟩:=trodAll_cons r1
  obtain⟨rfl,rfl,rfl⟩:=trodAll_nil r2
  obtain rfl:args = #[v0,v1,v2]:=by cases args; simp_all
  obtain⟨rfl,rfl⟩:=trodVars_none hV
  have k0:=h0
  have lt0 : ∀ x ∈ p0,x.block < W.heap.size:=by obtain⟨m,hm⟩:=k0; exact DataW.trod_lt m _ _ _ hm
  obtain⟨cs0,rfl,_⟩:=okWide_struct Tryz.underlying25 (hval 0 25 v0 rfl rfl)
  obtain⟨x0,rx0,wf0⟩:=Z1u k0 rd25
  obtain⟨a0_0,c0_0,a0_1,c0_1,e0,s0_0,s0_1⟩:=Z5z rx0
  obtain rfl:cs0=List.toArray _:=by apply Array.ext'; exact e0
  have k1:=h1
  have lt1 : ∀ x ∈ p1,x.block < W.heap.size:=by obtain⟨m,hm⟩:=k1; exact DataW.trod_lt m _ _ _ hm
  obtain⟨sa1,sl1,sc1,rfl⟩:=okWide_slice Tryz.underlying22 (hval 1 22 v1 rfl rfl)
  obtain⟨x1,rx1,wf1⟩:=Z1u k1 rd22
  obtain⟨_,e1,s1⟩:=rx1
  cases e1
  obtain⟨b1,c1,e1⟩:=s1.shape
  cases e1
  have k2:=h2
  have lt2 : ∀ x ∈ p2,x.block < W.heap.size:=by obtain⟨m,hm⟩:=k2; exact DataW.trod_lt m _ _ _ hm
  obtain⟨cs2,rfl,_⟩:=okWide_struct Tryz.underlying28 (hval 2 28 v2 rfl rfl)
  obtain⟨x2,rx2,wf2⟩:=Z1u k2 rd28
  obtain⟨a2_0,c2_0,e2,s2_0⟩:=Q9m rx2
  obtain rfl:cs2=List.toArray _:=by apply Array.ext'; exact e2
  have hlaw:=Z3k x0 x1 x2 wf0 wf1 wf2
  refine(ret_true (Q4s (Z9j W) s0_0 s0_1 s1 s2_0 lf _ hlaw) rfl).mono fun e W' ⟨he,bel⟩ => ?_
  subst he
  exact⟨_,rfl,_,_,_,[],_,[],hW',trodAll_mk1 (shut_bool Tryz.underlying4 _),(trodAll_cons_mk (Below.trod Z6i (by kernel_rfl) (of_decide_eq_true (by kernel_rfl)) k0 bel lt0) (trodAll_cons_mk (Below.trod Z6i (by kernel_rfl) (of_decide_eq_true (by kernel_rfl)) k1 bel lt1) (trodAll_cons_mk (Below.trod Z6i (by kernel_rfl) (of_decide_eq_true (by kernel_rfl)) k2 bel lt2) trodAll_mk0))),rfl,bel.frame _,fun h=>by cases h⟩
end rowWearCounts
theorem wearCounts_bare_holds:Rows.WearCountsSaid :=
  OpenClaim.holds_of_wide 3 Tryz.f3 rfl rfl rfl rfl rfl rfl rfl ⟨rfl,rfl,rfl,rfl,rfl⟩ rfl rfl rfl rfl rfl (by kernel_rfl) Tryz.func3 rowWearCounts.closed
    (of_decide_eq_true (by kernel_rfl)) (by unfold Func.isWrapper; first | (rw [if_pos (by decide +kernel)]; kernel_rfl) | (rw [if_neg (by decide +kernel)]; exact⟨rfl,rfl⟩))
    (fun os started H enc _=>rowWearCounts.lifted os started H enc)
theorem wearCounts_holds:Rows.WearCountsCardSaid :=
  Claim7.holds_tied_plain_at .later [] [.data, .data, .data] true (true, "1e99efa4dbbfd0f563b816471db3aa5d8e3793159a6f6f3cb327b5b1837aca58") true
    wearCounts_bare_holds (fun _ h=>by cases h) (by kernel_rfl) (fun _ h=>by cases h) Q5v rfl ⟨rfl,rfl⟩ (by kernel_rfl) rfl
    (fun f fn hf hfn=>by
      obtain rfl : f = 3 := Option.some.inj ((show Tryz.prog.funcNamed "rushlight/rushlightlaw34.WearCounts" = some 3 by kernel_rfl).symm.trans hf) |>.symm
      obtain rfl:fn=Tryz.f3:=(Option.some.inj (Tryz.func3.symm.trans hfn)).symm
      exact⟨by kernel_rfl,fun j t ht=>by
        rw [Tryz.params3] at ht
        have hm:t ∈ [25,22,28]:=by simpa using Array.mem_of_getElem? ht
        have hall:([25,22,28].all fun u => !Tryz.prog.wantsStandIn u)=true:=by kernel_rfl
        exact(show Tryz.prog.wantsStandIn t=false by simpa using List.all_eq_true.1 hall t hm)⟩)
    (Y2o rfl rowWearCounts.noGo)
#print axioms wearCounts_holds
end Go.Proofs.YtecakklofhfphaaGreatDoor
