/- CheckWritten: the row. The law returns true at every input that can be read; its arguments read afterwards as before. No condition. -/
import Derived.Test.YtjohcgibbiebkaaGreatDoorKFCheckWritten
import Derived.Test.YtjohcgibbiebkaaGreatDoorKW
import Derived.Test.YtjohcgibbiebkaaGreatDoorKLE
import Derived.Test.YtjohcgibbiebkaaGreatDoorKLd
import Derived.Test.YtjohcgibbiebkaaGreatDoorTie
import Derived.Test.YtjohcgibbiebkaaGreatDoorCards
import Derived.SevenTiedAt
import Derived.ShutString
import Derived.ChangeOld
import Derived.Below
import Derived.OpenShut
set_option linter.unusedVariables false
namespace Go.Proofs.YtjohcgibbiebkaaGreatDoor
open Go.ChangeShapes Go.WideShapes Go.ChangeAt Go.RowKit
open Go.ChangeMaps (open_string shut_string)
namespace rowCheckWritten
theorem own:ownKnob Tryz.prog.godebug=none:=by kernel_rfl
theorem laidOut:laidOutB Tryz.prog=true:=by kernel_rfl
theorem rd9:RdOk Tryz.prog 9 L9 (fun(s:List UInt8)=>s.length<=maxLen):=rdStr Tryz.underlying9
set_option maxRecDepth 100000 in
theorem lifted(os:Os)(started:os.Started)(H:Type)(enc:TypeId×Value->H):
 ReturnsInHanded {} Tryz.checked os 3 .any (fun w args=>(Rows.checkWrittenSpec.pre enc Tryz.prog Tryz.f3 [] false w args/\laidMetH Tryz.prog X2s w)/\sizedMet enc Tryz.prog Tryz.f3 (OpenSpec.ofChange Rows.checkWrittenSpec) false w args) (Rows.checkWrittenSpec.post enc Tryz.prog Tryz.f3 false true false false):=by
 refine X2u (C:=Tryz.checked) (X:=fun w _=>laidMetH Tryz.prog X2s w) (fun _ _ _ hh h=>h.of_heap hh) own started (by kernel_rfl) Tryz.func3
  (ChangeSpec.witness_shaped (enc:=enc) (C:=Tryz.checked) (os:=os) (X:=fun w _=>laidMetH Tryz.prog X2s w) false (wit os) #[.string ByteArray.empty] 8 rfl (X3t os _) (by kernel_rfl) (by kernel_rfl) (by kernel_rfl) (wit_laid os _)) ?_
 intro W base args ds gs before hval0 hW hcnd _ hL hsh _;have lf:=X4q hL;have hval:∀(j:Nat) t v,Tryz.f3.params[j]?=some t->args[j]?=some v->Value.okWide Tryz.prog W .any base t v:=hval0;have hW':=hW;obtain⟨p,q,hA0,hV,rfl,hfz,hnd⟩:=hW;have hA:DataW.TrodAll enc Tryz.prog W 0 (fun _=>true) true Tryz.f3.params.toList args.toList ds p:=hA0;rw[Tryz.params3]at hA hval;obtain⟨v0,vs0,d0,ds0,p0,q0,hargs,rfl,rfl,h0,r0⟩:=trodAll_cons hA;obtain⟨rfl,rfl,rfl⟩:=trodAll_nil r0;obtain rfl:args=#[v0]:=by cases args;simp_all
 obtain⟨rfl,rfl⟩:=trodVars_none hV;have k0:=h0;have lt0:∀x∈p0,x.block<W.heap.size:=by obtain⟨m,hm⟩:=k0;exact DataW.trod_lt m _ _ _ hm
 obtain⟨m0,rfl⟩:=okWide_string Tryz.underlying9 (hval 0 9 v0 rfl rfl);obtain⟨x0,rx0,wf0⟩:=open_arg k0 rd9;cases rx0;have hlaw:=Y5i x0 wf0;refine(ret_true (Z8a (startL W) (gi_start (g:=0) (t:=3) (zero:=#[.int .i64 0]) hsh (of_decide_eq_true (by kernel_rfl)) (by kernel_rfl) rfl (by kernel_rfl) (by kernel_rfl) Tryz.underlying3) lf _ hlaw) rfl).mono fun e W' ⟨he,bel⟩=>?_;subst he;exact⟨_,rfl,_,_,_,[],_,[],hW',trodAll_mk1 (shut_bool Tryz.underlying4 _),(trodAll_cons_mk (Below.trod laidOut (by kernel_rfl) (of_decide_eq_true (by kernel_rfl)) k0 bel lt0) trodAll_mk0),rfl,bel.frame _,fun h=>by cases h⟩
end rowCheckWritten
theorem checkWritten_bare_holds:Rows.CheckWrittenSaid:=
 OpenClaim.holds_of_wide 3 Tryz.f3 rfl rfl rfl rfl rfl rfl rfl ⟨rfl,rfl,rfl,rfl,rfl⟩ rfl rfl rfl rfl rfl (by kernel_rfl) Tryz.func3 rowCheckWritten.closed
  (of_decide_eq_true (by kernel_rfl)) (by unfold Func.isWrapper;first|(rw[if_pos (by decide+kernel)];kernel_rfl)|(rw[if_neg (by decide+kernel)];exact⟨rfl,rfl⟩))
  (fun os started H enc _=>rowCheckWritten.lifted os started H enc)
theorem checkWritten_holds:Rows.CheckWrittenCardSaid:=
 Claim7.holds_tied_plain_at .later [] [.data,.data,.data] true (true, "110b25a4d8456fd94db4e50c8a5e928d9bbfc258a77180e533c4b6773efdaf0a") true
  checkWritten_bare_holds (fun _ h=>by cases h) (by kernel_rfl) (fun _ h=>by cases h) checkWritten_row_tie rfl ⟨rfl,rfl⟩ (by kernel_rfl) rfl
  (fun f fn hf hfn=>by
   obtain rfl:f=3:=Option.some.inj ((show Tryz.prog.funcNamed "rushlight/rushlightlaw10.CheckWritten"=some 3 by kernel_rfl).symm.trans hf)|>.symm
   obtain rfl:fn=Tryz.f3:=(Option.some.inj (Tryz.func3.symm.trans hfn)).symm
   exact⟨by kernel_rfl,fun j t ht=>by
    rw[Tryz.params3]at ht
    have hm:t∈[9]:=by simpa using Array.mem_of_getElem? ht
    have hall:([9].all fun u=>!Tryz.prog.wantsStandIn u)=true:=by kernel_rfl
    exact(show Tryz.prog.wantsStandIn t=false by simpa using List.all_eq_true.1 hall t hm)⟩)
  (X6x rfl rowCheckWritten.noGo)
#print axioms checkWritten_holds
end Go.Proofs.YtjohcgibbiebkaaGreatDoor
