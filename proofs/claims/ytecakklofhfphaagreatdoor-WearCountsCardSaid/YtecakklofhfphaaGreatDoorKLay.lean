/- The types, the variables and the functions of the program are laid out as the rows want it: closed facts, in parts. No condition. -/
import Derived.Test.YtecakklofhfphaaGreatDoorRows
import Derived.KernelRfl
import GoSem.ClaimSeven
namespace Go.Proofs.YtecakklofhfphaaGreatDoor
open Go
theorem allS {p:Nat→Bool} {a n m:Nat} (h:(List.range' a n).all p=true) (k:(List.range' (a+n) m).all p=true):(List.range' a (n+m)).all p=true:=by
  rw [← List.range'_append_1,List.all_append,h,k]
  rfl
theorem la0:(List.range' 0 69).all (rowFine Tryz.prog)=true:=by kernel_rfl
theorem la1:(List.range' 69 69).all (rowFine Tryz.prog)=true:=by kernel_rfl
theorem la2:(List.range' 138 69).all (rowFine Tryz.prog)=true:=by kernel_rfl
theorem la3:(List.range' 207 69).all (rowFine Tryz.prog)=true:=by kernel_rfl
theorem la4:(List.range' 276 69).all (rowFine Tryz.prog)=true:=by kernel_rfl
theorem la5:(List.range' 345 69).all (rowFine Tryz.prog)=true:=by kernel_rfl
theorem la6:(List.range' 414 69).all (rowFine Tryz.prog)=true:=by kernel_rfl
theorem la7:(List.range' 483 69).all (rowFine Tryz.prog)=true:=by kernel_rfl
theorem la8:(List.range' 552 69).all (rowFine Tryz.prog)=true:=by kernel_rfl
theorem la9:(List.range' 621 53).all (rowFine Tryz.prog)=true:=by kernel_rfl
theorem ltn:Tryz.prog.types.size=674:=by kernel_rfl
theorem lgl:Tryz.prog.globals.all (fun g=>decide (g.type < 674))=true:=by kernel_rfl
theorem lfn:Tryz.prog.funcs.all (fun f=>f.params.all fun t=>decide (t < 674))=true:=by kernel_rfl
theorem laA:(List.range' 0 674).all (rowFine Tryz.prog)=true:=Eq.mp (congrArg (fun n=>(List.range' 0 n).all (rowFine Tryz.prog)=true) (show 69+(69+(69+(69+(69+(69+(69+(69+(69+(53)))))))))=674 by decide)) (allS (a:=0) (n:=69) (m:=69+(69+(69+(69+(69+(69+(69+(69+(53))))))))) la0 (allS (a:=69) (n:=69) (m:=69+(69+(69+(69+(69+(69+(69+(53)))))))) la1 (allS (a:=138) (n:=69) (m:=69+(69+(69+(69+(69+(69+(53))))))) la2 (allS (a:=207) (n:=69) (m:=69+(69+(69+(69+(69+(53)))))) la3 (allS (a:=276) (n:=69) (m:=69+(69+(69+(69+(53))))) la4 (allS (a:=345) (n:=69) (m:=69+(69+(69+(53)))) la5 (allS (a:=414) (n:=69) (m:=69+(69+(53))) la6 (allS (a:=483) (n:=69) (m:=69+(53)) la7 (allS (a:=552) (n:=69) (m:=53) la8 la9)))))))))
theorem lay:laidOutB Tryz.prog=true:=by
  unfold laidOutB
  simp only [ltn]
  rw [List.range_eq_range',lgl,lfn,laA]
  rfl
end Go.Proofs.YtecakklofhfphaaGreatDoor
