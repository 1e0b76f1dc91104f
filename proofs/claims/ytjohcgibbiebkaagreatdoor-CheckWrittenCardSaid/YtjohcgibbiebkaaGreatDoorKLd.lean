/- What the listed package variables hold when a call begins, and a world in which they do. -/
import Derived.Test.YtjohcgibbiebkaaGreatDoorRows
import Derived.Test.YtjohcgibbiebkaaGreatDoorKLB
import Derived.Lib.ItoaNum
set_option linter.unusedVariables false
set_option maxRecDepth 100000
namespace Go.Proofs.YtjohcgibbiebkaaGreatDoor
noncomputable def wit (os:Os):World:=World.doorLaid Tryz.prog 72 os
theorem X3t(os:Os)(args:Array Value):((wit os).forCall (fun _ _=>0) ⟨#[],args,[]⟩).Shaped Tryz.prog:=World.shaped_of_RefB (by kernel_rfl) (by kernel_rfl)
abbrev X2s:List (String×DataW Unit):=Rows.checkWrittenRow.laid
theorem wit_laid(os:Os)(args:Array Value):laidMetH Tryz.prog X2s ((wit os).forCall (fun _ _=>0) ⟨#[],args,[]⟩).memory:=
 laidMetH_of_parts3 (fuel:=8) (laidMet_of_run' 8 (by kernel_rfl) (by kernel_rfl)) (by kernel_rfl) (by kernel_rfl)
theorem X4q{W:World}(h:laidMetH Tryz.prog X2s W):Gc (allB W) W 1 (Lib.pow10Tab.map fun z=>Value.int .u64 z):=by
 rw[MakeChecks.laidMetH_plain _ _ _ (by kernel_rfl)]at h;have t2:=h;have g2:Tryz.prog.globalNamed "internal/strconv.uint64pow10"=some 1:=by kernel_rfl
 exact X6y (Lib.tabIs_of_head (zs:=Lib.pow10Tab) g2 (by kernel_rfl) Tryz.underlying248 Tryz.underlying153 (by kernel_rfl) (by kernel_rfl) t2) g2 rfl
end Go.Proofs.YtjohcgibbiebkaaGreatDoor
