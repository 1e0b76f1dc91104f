/- A function without arguments that the evaluator runs to true: what a call of it does, whatever the tape draws. It holds for every program. -/
import Derived.Test.YtecakklofhfphaaGreatDoorKAmc
import Derived.Test.YtecakklofhfphaaGreatDoorKErr
set_option linter.unusedVariables false
namespace Go.Proofs.YtecakklofhfphaaGreatDoor
noncomputable def AMX.allS (P:Program) (l:List Nat):Bool:=l.all fun f=>AMX.stB P f
def AMX.maskL:List Nat→Nat
  | []=>0
  | f::r=>Nat.lor (Nat.shiftLeft 1 f) (AMX.maskL r)
theorem AMX.kept_mem {f:Nat} : ∀ {l:List Nat},AMX.kept (AMX.maskL l) f=true→f ∈ l
  | [],h=>by
    unfold AMX.kept AMX.maskL at h
    have:=Nat.eq_of_beq_eq_true h
    rw [show Nat.shiftRight 0 f=0 >>> f from rfl,Nat.zero_shiftRight] at this
    cases this
  | g::r,h=>by
    by_cases hg:f=g
    · simp [hg]
    · refine List.mem_cons_of_mem _ (AMX.kept_mem (l:=r) ?_)
      unfold AMX.kept at h ⊢
      have h:=Nat.eq_of_beq_eq_true h
      have e : ∀ m:Nat,Nat.land (Nat.shiftRight m f) 1=1 ↔ m.testBit f=true:=fun m=>by
        show(m >>> f) &&& 1=1 ↔ _
        simp only [Nat.testBit,Nat.and_comm]
        rcases Nat.mod_two_eq_zero_or_one (m >>> f) with h | h <;> simp [h]
      have h2:(AMX.maskL r).testBit f=true:=by
        have:=(e _).1 h
        unfold AMX.maskL at this
        rw [show Nat.lor (Nat.shiftLeft 1 g) (AMX.maskL r)=(1 <<< g) ||| AMX.maskL r from rfl,Nat.testBit_or,Nat.one_shiftLeft,Nat.testBit_two_pow] at this
        simpa [Ne.symm hg] using this
      rw [(e _).2 h2]
      rfl
theorem AMX.stOk_of {P:Program} {l:List Nat} (h:AMX.allS P l=true):AMX.StOk P (AMX.maskL l):=fun f hf=>List.all_eq_true.1 h f (AMX.kept_mem hf)
theorem Y3e {P:Program} {f:FuncId} {h' : AMX.Hp} {Gd:AMX.Br→Prop} (hc : ∀ B,Gd B→AMX.CallAt B P f [] ⟨0,.nil⟩ (.bool true) h') {g w0:World} {T0:Nat→Prop} {R:Z4} {I:World→Prop} (hI:I w0)
    (keep : ∀ w w' : World,AMX.Wv (fun k=>k < w0.heap.size) w w' → I w→I w') (hG:Gd ⟨fun k=>k < w0.heap.size,I,keep⟩) (hS:Sep g T0 w0 [R]) :
    Calls P f #[] w0 (Y4 T0 w0 fun T w v=>v = .bool true∧Sep g T w [R]∧True):=by
  have H:AMX.HR ⟨fun k=>k < w0.heap.size,I,keep⟩ (fun _=>none) ⟨0,.nil⟩ w0 :=
    ⟨fun i q hq=>(by cases hq),fun i ob hi=>(by cases hi),fun i ob q _ hq=>(by cases hq),fun i j oi oj qi qj _ _ hq=>(by cases hq),fun k hk=>hk,hI⟩
  obtain⟨_,hc⟩:=hc _ hG (fun _=>none) w0 [] rfl H
  refine Calls.mono hc ?_
  rintro e w ⟨φ',x,rfl,hv,_,hE⟩
  simp only [AMX.VR] at hv
  subst hv
  have hW:=hE.wv
  have hinn:Inn w0.heap.size noB T0 w0 T0 w:=⟨⟨hW.os,hW.tape,hW.output,hW.size,fun b hb' _=>hW.same b hb'⟩,fun b hb' => ⟨hb',hW.same b (hS.lt b hb')⟩,fun _ _ h=>h,fun b hb' => Nat.lt_of_lt_of_le (hS.lt b hb') hW.size,hW.size⟩
  exact⟨_,rfl,_,hinn.imm,rfl,hS.keep hinn (fun _ h=>h),trivial⟩
theorem Y3d {P:Program} {f:FuncId} {h' : AMX.Hp} {name:String} {gi:Nat} {cs:List Value} (hg:P.globalNamed name=some gi) (hc : ∀ B:AMX.Br,(∀ w,B.I w→w.var? P name=some cs.toArray)→AMX.CallAt B P f [] ⟨0,.nil⟩ (.bool true) h')
    {g w0:World} {T0:Nat→Prop} {R:Z4} (hS:Sep g T0 w0 [R]) (hG:Gc T0 w0 gi cs):Calls P f #[] w0 (Y4 T0 w0 fun T w v=>v = .bool true∧Sep g T w [R]∧True):=by
  refine Y3e (Gd:=fun B => ∀ w,B.I w→w.var? P name=some cs.toArray) hc (I:=fun w=>w.var? P name=some cs.toArray) (hG.var hg) (fun w w' hw hv => ?_) (fun _ h=>h) hS
  rw [← hv]
  unfold World.var?
  rw [hg,Option.bind_some,Option.bind_some,hw.same gi (hS.lt gi hG.1)]
theorem Y0i {P:Program} {k:Nat} {f:FuncId} {l:List Nat} {Gd:AMX.Br→Prop} {pm:List AMX.Pm} {tb:List AMX.Te} (hl:AMX.allS P l=true) (hm:P.follows .mixedOrders=true) (hpm:AMX.PmOk Gd P pm) (htb:AMX.TbOk Gd P tb) (h:AMX.isTrue ((AMX.callT P (AMX.maskL l) pm tb k).run f [] ⟨0,.nil⟩)=true) :
    ∃ h',∀ B,Gd B→AMX.CallAt B P f [] ⟨0,.nil⟩ (.bool true) h' := by
  have he : ∃ h',(AMX.callT P (AMX.maskL l) pm tb k).run f [] ⟨0,.nil⟩ = .ok (.bool true) h' := by
    revert h
    generalize (AMX.callT P (AMX.maskL l) pm tb k).run f [] ⟨0,.nil⟩=r
    intro h
    unfold AMX.isTrue at h
    split at h
    · exact⟨_,rfl⟩
    · cases h
  obtain⟨h',he⟩:=he
  exact⟨h',fun B hB=>(AMX.callT_ok (AMX.stOk_of hl) hm hpm htb k B hB).1 f [] ⟨0,.nil⟩ (.bool true) h' he⟩
end Go.Proofs.YtecakklofhfphaaGreatDoor
