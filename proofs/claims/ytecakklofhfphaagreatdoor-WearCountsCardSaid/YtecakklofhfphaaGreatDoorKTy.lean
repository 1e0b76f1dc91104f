/- The variables that the program lays at its start hold what the rows say. No conditions: nine closed facts, each a theorem by itself. -/
import Derived.Test.YtecakklofhfphaaGreatDoorRows
import Derived.LaidByTextLater
import Derived.LaidOnce
import Derived.SevenTiedAt
namespace Go.Proofs.YtecakklofhfphaaGreatDoor
open Go
set_option maxRecDepth 100000
def Z7f : List (String × DataW Unit) := [("internal/strconv.uint64pow10", Rows.laid_internal_strconv_uint64pow10), ("math/bits.deBruijn32tab", Rows.laid_math_bits_deBruijn32tab), ("math/bits.deBruijn64tab", Rows.laid_math_bits_deBruijn64tab)]
theorem tw1:Tryz.prog.worded (varsWordLater true)=true:=by kernel_rfl
theorem tw2:Tryz.prog.worded (varsWordLater !true)=false:=by kernel_rfl
theorem tw3:Tryz.prog.worded rootWordLater=true:=by kernel_rfl
theorem tw4:Z7f.map (fun x=>Tryz.prog.kindOfLater x.1) = [LaidKind.data,LaidKind.data,LaidKind.data].map some:=by kernel_rfl
theorem tw5 : (Tryz.prog.funcNamed "gosem.cut.vars").isSome = true := by kernel_rfl
theorem tw6:varsNamedLaterB Tryz.prog (varsId Tryz.prog) Z7f=true:=by kernel_rfl
theorem tw7 : ∀ os tape,doorLeaves Tryz.prog 400 8 65 Z7f os tape=some (Z7f.filter fun x=>x.2.handleName?.isNone,(funcsListed Z7f).map (·.2.funcsOut)):=fun _ _=>by kernel_rfl
theorem Z7y : Tryz.pinned.checked.prog.headLifts.contains "ownunsafe" = false := by kernel_rfl
theorem tie : Tryz.prog.laidByTextLater [("internal/strconv.uint64pow10", Rows.laid_internal_strconv_uint64pow10), ("math/bits.deBruijn32tab", Rows.laid_math_bits_deBruijn32tab), ("math/bits.deBruijn64tab", Rows.laid_math_bits_deBruijn64tab)] [.data, .data, .data] true :=
  Program.laidByTextLater_by_one 400 8 65 tw1 tw2 tw3 tw4 tw5 tw6 tw7
theorem Q5v:Rows.wearCountsRow.laidByTextAt .later Tryz.pinned [.data,.data,.data] true :=
  OpenClaim.laidByTextAt_later rfl rfl tie Z7y
end Go.Proofs.YtecakklofhfphaaGreatDoor
