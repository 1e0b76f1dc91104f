/- CheckWritten: closed facts of the row. No condition. -/
import Derived.Test.YtjohcgibbiebkaaGreatDoorRows
import Derived.JoinedOf
import Derived.KernelRfl
import GoSem.ClaimSeven
set_option linter.unusedVariables false
namespace Go.Proofs.YtjohcgibbiebkaaGreatDoor
namespace rowCheckWritten
theorem bb{a b:Bool}(h:a=true)(k:b=true):(a&&b)=true:=by rw[h,k];rfl
abbrev Ab(k:Program->FuncId->Func->ChangeSpec->OpenClaim->Bool):Prop:=k Tryz.prog 3 Tryz.f3 Rows.checkWrittenSpec Rows.checkWrittenRow=true
theorem c0:Ab fun P f fn s c=>c.wf (OpenSpec.ofChange s):=by show _=true;kernel_rfl
theorem c1:Ab fun P f fn s c=>laidOutB P:=by show _=true;kernel_rfl
theorem c2:Ab fun P f fn s c=>mapsRowed P:=by show _=true;kernel_rfl
theorem c3:Ab fun P f fn s c=>fn.params.all (P.readableRec ·):=by show _=true;kernel_rfl
theorem c4:Ab fun P f fn s c=>namedTie P c.named s.vars:=by show _=true;kernel_rfl
theorem c5:Ab fun P f fn s c=>c.stops==[]:=by show _=true;kernel_rfl
theorem c6:Ab fun P f fn s c=>P.stops==[]:=by show _=true;kernel_rfl
theorem c7:Ab fun P f fn s c=>c.knobs==[]:=by show _=true;kernel_rfl
theorem c8:Ab fun P f fn s c=>P.stopKnobs==[]:=by show _=true;kernel_rfl
theorem c9:Ab fun P f fn s c=>c.inPlace==P.inPlace f:=by show _=true;kernel_rfl
theorem c10:Ab fun P f fn s c=>c.unfollowed==P.unfollowed f:=by show _=true;kernel_rfl
theorem c11:Ab fun P f fn s c=>c.recurses==P.recurses f:=by show _=true;kernel_rfl
theorem c12:Ab fun P f fn s c=>c.named==P.varsNamed f:=by show _=true;kernel_rfl
theorem c13:Ab fun P f fn s c=>c.maps==(fn.params.toList++s.plain.varTypes P).any (P.mapsRec ·):=by show _=true;kernel_rfl
theorem c14:Ab fun P f fn s c=>c.ifaces==(fn.params.toList++s.plain.varTypes P).any (P.ifacesRec ·):=by show _=true;kernel_rfl
theorem c15:Ab fun P f fn s c=>c.mapsOut==P.mapsAmong fn.resultTypes.toList:=by show _=true;kernel_rfl
theorem c16:Ab fun P f fn s c=>c.loops==(fn.params.toList++s.plain.varTypes P).any (P.loopsFrom ·):=by show _=true;kernel_rfl
theorem c17:Ab fun P f fn s c=>c.wideKeys==(fn.params.toList++s.plain.varTypes P++fn.resultTypes.toList).any (P.wideKeysFrom ·):=by show _=true;kernel_rfl
theorem c18:Ab fun P f fn s c=>s.vars.all (P.varReadable ·):=by show _=true;kernel_rfl
theorem c19:Ab fun P f fn s c=>fn.resultTypes.all (fun t=>P.readableRec t&&decide (t<P.types.size)):=by show _=true;kernel_rfl
theorem c20:Ab fun P f fn s c=>c.ifacesOut==fn.resultTypes.toList.any (P.ifacesRec ·):=by show _=true;kernel_rfl
theorem c21:Ab fun P f fn s c=>c.loopsOut==fn.resultTypes.toList.any (P.loopsFrom ·):=by show _=true;kernel_rfl
theorem c22:Ab fun P f fn s c=>c.plainKeys==P.plainKeys:=by show _=true;kernel_rfl
theorem c23:Ab fun P f fn s c=>c.shortTexts.isNone:=by show _=true;kernel_rfl
theorem c24:Ab fun P f fn s c=>P.stopsHeard:=by show _=true;kernel_rfl
theorem c25:Ab fun P f fn s c=>P.mayEnter:=by show _=true;kernel_rfl
theorem c26:Ab fun P f fn s c=>c.lifted==P.liftsFinal:=by show _=true;kernel_rfl
theorem c27:Ab fun P f fn s c=>P.make==some c.make:=by show _=true;kernel_rfl
theorem c28:Ab fun P f fn s c=>c.kinds==(if c.domain.isEmpty then[]else fn.params.toList.map fun t=>match P.underlying t with|some (.int k)=>some k|_=>none):=by show _=true;kernel_rfl
theorem c29:Ab fun P f fn s c=>c.pinned==c.pinnedBy:=by show _=true;kernel_rfl
theorem c30:Ab fun P f fn s c=>c.veiled==(fn.params.toList++s.plain.varTypes P++fn.resultTypes.toList).any (P.veiledRec ·):=by show _=true;kernel_rfl
theorem c31:Ab fun P f fn s c=>c.veiledFits P fn.params.toList (fn.params.toList++s.plain.varTypes P++fn.resultTypes.toList):=by show _=true;kernel_rfl
set_option maxRecDepth 100000 in
theorem closed:joinedFacts Tryz.prog 3 Tryz.f3 Rows.checkWrittenSpec Rows.checkWrittenRow=true:=by
 unfold joinedFacts;exact(bb (bb (bb (bb (bb (bb (bb (bb (bb (bb (bb (bb (bb (bb (bb (bb (bb (bb (bb (bb (bb (bb (bb (bb (bb (bb (bb (bb (bb (bb (bb c0 c1) c2) c3) c4) c5) c6) c7) c8) c9) c10) c11) c12) c13) c14) c15) c16) c17) c18) c19) c20) c21) c22) c23) c24) c25) c26) c27) c28) c29) c30) c31)
theorem noGo:Tryz.prog.funcs.any Func.goes=false:=by kernel_rfl
end rowCheckWritten
end Go.Proofs.YtjohcgibbiebkaaGreatDoor
