/- What the listed package variables hold when a call begins, and a world in which they do. -/
import Derived.Test.YtecakklofhfphaaGreatDoorRows
import Derived.Test.YtecakklofhfphaaGreatDoorKLaid
import Derived.Test.YtecakklofhfphaaGreatDoorKGi
import Derived.Lib.ItoaNum
set_option linter.unusedVariables false
set_option maxRecDepth 100000
namespace Go.Proofs.YtecakklofhfphaaGreatDoor
noncomputable def wit (os:Os):World:=World.doorLaid Tryz.prog 72 os
theorem Z9a (os:Os) (args:Array Value):((wit os).forCall (fun _ _=>0) ⟨#[],args,[]⟩).Shaped Tryz.prog:=World.shaped_of_RefB (by kernel_rfl) (by kernel_rfl)
abbrev Z8g:List (String×DataW Unit):=Rows.wearCountsRow.laid
theorem wit_laid (os:Os) (args:Array Value):laidMetH Tryz.prog Z8g ((wit os).forCall (fun _ _=>0) ⟨#[],args,[]⟩).memory :=
  laidMetH_of_parts3 (fuel:=8) (laidMet_of_run' 8 (by kernel_rfl) (by kernel_rfl)) (by kernel_rfl) (by kernel_rfl)
theorem Z9w {W:World} (h:laidMetH Tryz.prog Z8g W):Gc (Z3h W) W 1 (Lib.pow10Tab.map fun z=>Value.int .u64 z):=by
  rw [MakeChecks.laidMetH_plain _ _ _ (by kernel_rfl)] at h
  have g2 : Tryz.prog.globalNamed "internal/strconv.uint64pow10" = some 1 := by kernel_rfl
  exact Y2p (Lib.tabIs_of_head (zs:=Lib.pow10Tab) g2 (by kernel_rfl) Tryz.underlying610 Tryz.underlying405 (by kernel_rfl) (by kernel_rfl) h) g2 rfl
end Go.Proofs.YtecakklofhfphaaGreatDoor
