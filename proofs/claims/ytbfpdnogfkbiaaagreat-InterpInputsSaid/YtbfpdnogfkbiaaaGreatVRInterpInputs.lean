/- InterpInputs: the row. The law returns true at every input that can be read; its arguments read afterwards as before. No condition. -/
import Derived.Test.YtbfpdnogfkbiaaaGreatVFInterpInputs
import Derived.Test.YtbfpdnogfkbiaaaGreatVWI
import Derived.Test.YtbfpdnogfkbiaaaGreatVJ12i
import Derived.ShutString
import Derived.ChangeOld
import Derived.Below
import Derived.OpenShut
set_option linter.unusedVariables false
namespace Go.Proofs.YtbfpdnogfkbiaaaGreat
open Go.ChangeShapes Go.WideShapes Go.ChangeAt Go.RowKit
open Go.ChangeMaps (open_string shut_string)
namespace rowInterpInputs
theorem own:ownKnob Tryz.prog.godebug=none:=by kernel_rfl
theorem Y4q:laidOutB Tryz.prog=true:=by kernel_rfl
theorem rd9:Y0k Tryz.prog 9 Z8n (fun(s:List UInt8)=>s.length<=maxLen):=rdStr Tryz.underlying9
theorem rd33:Y0k Tryz.prog 33 (J3 .u32) (wfI .u32):=rdInt Tryz.underlying33
theorem rd22:Y0k Tryz.prog 22 (rSl (J3 .u32)) (fun(l:List Int)=>(∀x∈l,(wfI .u32) x)/\l.length<=maxLen):=rdSl rd33 Tryz.underlying22 (by kernel_rfl) (by decide)
set_option maxRecDepth 100000 in
theorem lifted(os:Os)(started:os.Started)(H:Type)(enc:TypeId×Value->H):
 ReturnsInHanded {} Tryz.checked os 4 .any (Rows.interpInputsSpec.pre6 enc Tryz.prog Tryz.f4 Rows.interpInputsRow.domain false) (Rows.interpInputsSpec.post enc Tryz.prog Tryz.f4 false true false false):=by
 refine returnsInHanded_of_change_shaped (C:=Tryz.checked) own started (by kernel_rfl) Tryz.func4
  (ChangeSpec.witness6 (enc:=enc) (C:=Tryz.checked) false ⟨#[],#[.string ByteArray.empty,.slice none 0 0,.slice none 0 0],[]⟩ 8 (by kernel_rfl) (by kernel_rfl) (by kernel_rfl) (by kernel_rfl)) ?_
 intro W base args ds gs before hval0 hW hcnd _ hsh _;have hval:∀(j:Nat) t v,Tryz.f4.params[j]?=some t->args[j]?=some v->Value.okWide Tryz.prog W .any base t v:=hval0;have hW':=hW;obtain⟨p,q,hA0,hV,rfl,hfz,hnd⟩:=hW;have hA:DataW.TrodAll enc Tryz.prog W 0 (fun _=>true) true Tryz.f4.params.toList args.toList ds p:=hA0;rw[Tryz.params4]at hA hval;obtain⟨v0,vs0,d0,ds0,p0,q0,hargs,rfl,rfl,h0,r0⟩:=trodAll_cons hA;obtain⟨v1,vs1,d1,ds1,p1,q1,rfl,rfl,rfl,h1,r1⟩:=trodAll_cons r0;obtain⟨v2,vs2,d2,ds2,p2,q2,rfl,rfl,rfl,h2,r2⟩:=trodAll_cons r1;obtain⟨rfl,rfl,rfl⟩:=trodAll_nil r2;obtain rfl:args=#[v0,v1,v2]:=by cases args;simp_all
 obtain⟨rfl,rfl⟩:=trodVars_none hV;have k0:=h0;have lt0:∀x∈p0,x.block<W.heap.size:=by obtain⟨m,hm⟩:=k0;exact DataW.trod_lt m _ _ _ hm
 obtain⟨m0,rfl⟩:=okWide_string Tryz.underlying9 (hval 0 9 v0 rfl rfl);obtain⟨x0,rx0,wf0⟩:=Y4h k0 rd9;cases rx0;have k1:=h1;have lt1:∀x∈p1,x.block<W.heap.size:=by obtain⟨m,hm⟩:=k1;exact DataW.trod_lt m _ _ _ hm
 obtain⟨sa1,sl1,sc1,rfl⟩:=okWide_slice Tryz.underlying22 (hval 1 22 v1 rfl rfl);obtain⟨x1,rx1,wf1⟩:=Y4h k1 rd22;obtain⟨_,e1,s1⟩:=rx1;cases e1;obtain⟨b1,c1,e1⟩:=s1.shape;cases e1;have k2:=h2;have lt2:∀x∈p2,x.block<W.heap.size:=by obtain⟨m,hm⟩:=k2;exact DataW.trod_lt m _ _ _ hm
 obtain⟨sa2,sl2,sc2,rfl⟩:=okWide_slice Tryz.underlying22 (hval 2 22 v2 rfl rfl);obtain⟨x2,rx2,wf2⟩:=Y4h k2 rd22;obtain⟨_,e2,s2⟩:=rx2;cases e2;obtain⟨b2,c2,e2⟩:=s2.shape;cases e2;have hlaw:=Y5o x0 x1 x2 wf0 wf1 wf2;refine(X1s (Z8t (startL W) s1 s2 (X2g (g:=0) (t:=3) (zero:=#[.int .i64 0]) hsh (of_decide_eq_true (by kernel_rfl)) (by kernel_rfl) rfl (by kernel_rfl) (by kernel_rfl) Tryz.underlying3) _ hlaw) rfl).mono fun e W' ⟨he,bel⟩=>?_;subst he;exact⟨_,rfl,_,_,_,[],_,[],hW',trodAll_mk1 (shut_bool Tryz.underlying4 _),(trodAll_cons_mk (Below.trod Y4q (by kernel_rfl) (of_decide_eq_true (by kernel_rfl)) k0 bel lt0) (trodAll_cons_mk (Below.trod Y4q (by kernel_rfl) (of_decide_eq_true (by kernel_rfl)) k1 bel lt1) (trodAll_cons_mk (Below.trod Y4q (by kernel_rfl) (of_decide_eq_true (by kernel_rfl)) k2 bel lt2) trodAll_mk0))),rfl,bel.frame _,fun h=>by cases h⟩
end rowInterpInputs
theorem interpInputs_holds:Rows.InterpInputsSaid:=
 OpenClaim.holds_of_wide 4 Tryz.f4 rfl rfl rfl rfl rfl rfl rfl ⟨rfl,rfl,rfl,rfl,rfl⟩ rfl rfl rfl rfl rfl (by kernel_rfl) Tryz.func4 rowInterpInputs.closed
  (of_decide_eq_true (by kernel_rfl)) (by unfold Func.isWrapper;first|(rw[if_pos (by decide+kernel)];kernel_rfl)|(rw[if_neg (by decide+kernel)];exact⟨rfl,rfl⟩))
  (fun os started H enc _=>rowInterpInputs.lifted os started H enc)
#print axioms interpInputs_holds
end Go.Proofs.YtbfpdnogfkbiaaaGreat
