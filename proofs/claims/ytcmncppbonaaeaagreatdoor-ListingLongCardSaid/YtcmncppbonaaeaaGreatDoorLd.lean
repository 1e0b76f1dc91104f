/- What the listed package variables hold when a call begins, and a world in which they do. -/
import Derived.Test.YtcmncppbonaaeaaGreatDoorRows
import Derived.Test.YtcmncppbonaaeaaGreatDoorLaid
import Derived.Test.YtcmncppbonaaeaaGreatDoorGi
import Derived.Lib.ItoaNum
import Derived.Lib.TrailingZeros
set_option linter.unusedVariables false
set_option maxRecDepth 100000
namespace Go.Proofs.YtcmncppbonaaeaaGreatDoor
noncomputable def wit (os : Os) : World := { World.doorLaid Tryz.prog 72 os with heap := (World.doorLaid Tryz.prog 72 os).heap.setIfInBounds 4 (.cells (Pinned.utf8FirstZ.map fun (n : Nat) => Value.int .u8 (n : Int)).toArray 137 (0, 0)) }
theorem wit_shaped (os : Os) (args : Array Value) : ((wit os).forCall (fun _ _ => 0) ⟨#[], args, []⟩).Shaped Tryz.prog := World.shaped_of_RefB (by kernel_rfl) (by kernel_rfl)
abbrev laidL : List (String × DataW Unit) := Rows.listingLinesRow.laid
theorem wit_laid (os : Os) (args : Array Value) : laidMetH Tryz.prog laidL ((wit os).forCall (fun _ _ => 0) ⟨#[], args, []⟩).memory :=
  laidMetH_of_parts3 (fuel := 8) (laidMet_of_run' 8 (by kernel_rfl) (by kernel_rfl)) (by kernel_rfl) (by kernel_rfl)
theorem rowE (u : TypeId) (h : Tryz.prog.typeName? 3 u = some "*errors.errorString") : u = 141 :=
  typeName_ptr_named (nm := "errors.errorString") (by kernel_rfl) (by kernel_rfl) (by decide) u h
theorem cellsE : Tryz.prog.cellsOf 143 = 1 := by kernel_rfl
theorem cellsS : Tryz.prog.cellsOf 9 = 1 := by kernel_rfl
theorem laid_facts {W : World} (h : laidMetH Tryz.prog laidL W) : Gc (allB W) W 1 (Lib.pow10Tab.map fun z => Value.int .u64 z) ∧ Gc (allB W) W 7 (Lib.deBruijn64tab.map fun (z : Nat) => Value.int .u8 (z : Int)) ∧
    Ge (allB W) W 2 ∧ Ge (allB W) W 3 := by
  rw [MakeChecks.laidMetH_plain _ _ _ (by kernel_rfl)] at h
  have t1 := h.tail
  have t2 := t1.tail
  have t4 := t2.tail.tail
  have t5 := t4.tail
  have g1 : Tryz.prog.globalNamed "math/bits.deBruijn64tab" = some 7 := by kernel_rfl
  have g2 : Tryz.prog.globalNamed "internal/strconv.uint64pow10" = some 1 := by kernel_rfl
  have g3 : Tryz.prog.globalNamed "strconv.ErrRange" = some 3 := by kernel_rfl
  have g4 : Tryz.prog.globalNamed "strconv.ErrSyntax" = some 2 := by kernel_rfl
  refine ⟨gc_of_tab (Lib.tabIs_of_head (zs := Lib.pow10Tab) g2 (by kernel_rfl) Tryz.underlying126 Tryz.underlying80 (by kernel_rfl) (by kernel_rfl) t2) g2 rfl,
    gc_of_tab (Lib.tabIs_of_head (zs := Lib.deBruijn64tab.map fun (z : Nat) => (z : Int)) g1 (by kernel_rfl) Tryz.underlying145 Tryz.underlying5 (by kernel_rfl) (by kernel_rfl) t1) g1 (by rw [List.map_map]; rfl), ?_, ?_⟩
  · obtain ⟨a, s, h1, _⟩ := laid_sentinel t5 g4 (by kernel_rfl) Tryz.underlying62 rowE Tryz.underlying141 Tryz.underlying143 rfl rfl Tryz.underlying9 cellsE cellsS
    exact ge_of_iface h1 g4
  · obtain ⟨a, s, h1, _⟩ := laid_sentinel t4 g3 (by kernel_rfl) Tryz.underlying62 rowE Tryz.underlying141 Tryz.underlying143 rfl rfl Tryz.underlying9 cellsE cellsS
    exact ge_of_iface h1 g3
end Go.Proofs.YtcmncppbonaaeaaGreatDoor
