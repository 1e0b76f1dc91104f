/- InterpFuel: the row. The law returns true at every input that can be read; its arguments read afterwards as before. No condition. -/
import Derived.Test.YtbfpdnogfkbiaaaGreatVFInterpFuel
import Derived.Test.YtbfpdnogfkbiaaaGreatVWF
import Derived.Test.YtbfpdnogfkbiaaaGreatVJF
import Derived.ShutString
import Derived.ChangeOld
import Derived.Below
import Derived.OpenShut
set_option linter.unusedVariables false
namespace Go.Proofs.YtbfpdnogfkbiaaaGreat
open Go.ChangeShapes Go.WideShapes Go.ChangeAt Go.RowKit
open Go.ChangeMaps (open_string shut_string)
namespace rowInterpFuel
theorem own:ownKnob Tryz.prog.godebug=none:=by kernel_rfl
theorem Y4q:laidOutB Tryz.prog=true:=by kernel_rfl
theorem rd9:Y0k Tryz.prog 9 Z8n (fun(s:List UInt8)=>s.length<=maxLen):=rdStr Tryz.underlying9
theorem rd33:Y0k Tryz.prog 33 (J3 .u32) (wfI .u32):=rdInt Tryz.underlying33
theorem rd22:Y0k Tryz.prog 22 (rSl (J3 .u32)) (fun(l:List Int)=>(∀x∈l,(wfI .u32) x)/\l.length<=maxLen):=rdSl rd33 Tryz.underlying22 (by kernel_rfl) (by decide)
theorem rd3:Y0k Tryz.prog 3 (J3 .i64) (wfI .i64):=rdInt Tryz.underlying3
theorem rd24:Y0k Tryz.prog 24 Y5d (fun(y:Z3l)=>(fun(s:List UInt8)=>s.length<=maxLen) y.S/\((fun(l:List Int)=>(∀x∈l,(wfI .u32) x)/\l.length<=maxLen) y.Inputs/\((wfI .i64) y.N/\((wfI .i64) y.More)))):=rdStruct (tot:=4) (fun p=>⟨p.1,p.2.1,p.2.2.1,p.2.2.2⟩) (fun _=>rfl) Tryz.underlying24 (by kernel_rfl) (Y9z (s:=1) rd9 rfl (by kernel_rfl) (Y9z (s:=1) rd22 rfl (by kernel_rfl) (Y9z (s:=1) rd3 rfl (by kernel_rfl) (rdTail1 rd3 rfl (by kernel_rfl)))))
set_option maxRecDepth 100000 in
theorem lifted(os:Os)(started:os.Started)(H:Type)(enc:TypeId×Value->H):
 ReturnsInHanded {} Tryz.checked os 3 .any (Rows.interpFuelSpec.pre6 enc Tryz.prog Tryz.f3 Rows.interpFuelRow.domain false) (Rows.interpFuelSpec.post enc Tryz.prog Tryz.f3 false true false false):=by
 refine returnsInHanded_of_change_shaped (C:=Tryz.checked) own started (by kernel_rfl) Tryz.func3
  (ChangeSpec.witness6 (enc:=enc) (C:=Tryz.checked) false ⟨#[],#[.agg #[.string ByteArray.empty,.slice none 0 0,.int .i64 0,.int .i64 0]],[]⟩ 8 (by kernel_rfl) (by kernel_rfl) (by kernel_rfl) (by kernel_rfl)) ?_
 intro W base args ds gs before hval0 hW hcnd _ hsh _;have hval:∀(j:Nat) t v,Tryz.f3.params[j]?=some t->args[j]?=some v->Value.okWide Tryz.prog W .any base t v:=hval0;have hW':=hW;obtain⟨p,q,hA0,hV,rfl,hfz,hnd⟩:=hW;have hA:DataW.TrodAll enc Tryz.prog W 0 (fun _=>true) true Tryz.f3.params.toList args.toList ds p:=hA0;rw[Tryz.params3]at hA hval;obtain⟨v0,vs0,d0,ds0,p0,q0,hargs,rfl,rfl,h0,r0⟩:=trodAll_cons hA;obtain⟨rfl,rfl,rfl⟩:=trodAll_nil r0;obtain rfl:args=#[v0]:=by cases args;simp_all
 obtain⟨rfl,rfl⟩:=trodVars_none hV;have k0:=h0;have lt0:∀x∈p0,x.block<W.heap.size:=by obtain⟨m,hm⟩:=k0;exact DataW.trod_lt m _ _ _ hm
 obtain⟨cs0,rfl,_⟩:=okWide_struct Tryz.underlying24 (hval 0 24 v0 rfl rfl);obtain⟨x0,rx0,wf0⟩:=Y4h k0 rd24;obtain⟨a0_0,c0_0,e0,s0_0⟩:=Z5v rx0;obtain rfl:cs0=List.toArray _:=by apply Array.ext';exact e0
 have hlaw:=Y8d x0 wf0;refine(X1s (Y1s (startL W) s0_0 (X2g (g:=0) (t:=3) (zero:=#[.int .i64 0]) hsh (of_decide_eq_true (by kernel_rfl)) (by kernel_rfl) rfl (by kernel_rfl) (by kernel_rfl) Tryz.underlying3) _ hlaw) rfl).mono fun e W' ⟨he,bel⟩=>?_;subst he;exact⟨_,rfl,_,_,_,[],_,[],hW',trodAll_mk1 (shut_bool Tryz.underlying4 _),(trodAll_cons_mk (Below.trod Y4q (by kernel_rfl) (of_decide_eq_true (by kernel_rfl)) k0 bel lt0) trodAll_mk0),rfl,bel.frame _,fun h=>by cases h⟩
end rowInterpFuel
theorem interpFuel_holds:Rows.InterpFuelSaid:=
 OpenClaim.holds_of_wide 3 Tryz.f3 rfl rfl rfl rfl rfl rfl rfl ⟨rfl,rfl,rfl,rfl,rfl⟩ rfl rfl rfl rfl rfl (by kernel_rfl) Tryz.func3 rowInterpFuel.closed
  (of_decide_eq_true (by kernel_rfl)) (by unfold Func.isWrapper;first|(rw[if_pos (by decide+kernel)];kernel_rfl)|(rw[if_neg (by decide+kernel)];exact⟨rfl,rfl⟩))
  (fun os started H enc _=>rowInterpFuel.lifted os started H enc)
#print axioms interpFuel_holds
end Go.Proofs.YtbfpdnogfkbiaaaGreat
