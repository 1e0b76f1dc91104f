/-
  NARROWER THAN 'FOR EVERY INPUT', by the rows' own cells (each row's printed sentence says how): CheckFolds: loops.
  DERIVED. THE GIVEN ROWS OF THIS SEAT. 4 by the template 'for every input the law returns true; each argument reads behind the call as it read before'; 0 by the template 'total and deterministic' (their statements: YtpfgdpffgdengaaGreatTotals.lean).
  GIVEN WITH THE SEED: the statements are not yours to turn. If you find one false, say at which input.
  Laid BY PROGRAM, IN A SANDBOX (cutbox-rows.mjs): the forced cells as the released guide's own fill.sh prints them over the translation a092c2bcd38eaef0… (all of the seat's roots in one cut). By AI agents, Wed Nov 11 2026. No macro, syntax, notation, axiom, sorry.
-/
import Derived.Test.YtpfgdpffgdengaaGreatChecked
import GoSem.Claim
import GoSem.ClaimJoined
import GoSem.ClaimMapViews
import Derived.JoinedTies
import Derived.KernelRfl
namespace Go.Proofs.YtpfgdpffgdengaaGreat
/- THE CELL 'sum', in the pinned program and in every row, IS THE sha256 OF THE DUMP (.gsa) THAT YtpfgdpffgdengaaGreatProg.lean LOADS. Nothing in Lean hashes anything: it is a label: what it is worth is what the hold of that sum in a sandbox is worth. -/
noncomputable def Tryz.pinned : Pinned := { name := "ytpfgdpffgdengaagreat", sum := "a092c2bcd38eaef05b84f51c7dce3f0956a6a0c0ec8d8935f5a4822a78f92d7d", checked := Tryz.checked }
namespace Rows
def none {H : Type} : Left H := { results := [], args := [] }

/-- 'rushlightlaw10.CheckApplies': WHATEVER THE INPUT: true; the input reads as it did. -/
def checkAppliesSpec : ChangeSpec := { name := "checkApplies", fn := fun _ => fun
  | [d1, d2, d3] => { results := [.lit (.bool true)], args := [d1, d2, d3] }
  | _ => none }
def checkAppliesRow : OpenClaim := { program := "ytpfgdpffgdengaagreat", sum := "a092c2bcd38eaef05b84f51c7dce3f0956a6a0c0ec8d8935f5a4822a78f92d7d", func := "rushlight/rushlightlaw10.CheckApplies", spec := "checkApplies", inPlace := ["internal/bytealg.IndexByteString", "internal/bytealg.IndexString"], unfollowed := true, recurses := true, named := ["internal/bytealg.MaxLen"], apart := false }
def CheckAppliesSaid : Prop := checkAppliesRow.holds Tryz.pinned (OpenSpec.ofChange checkAppliesSpec)

/-- ITS FALSE NEIGHBOUR: 'it returns false'. Refute it at one input. -/
def checkAppliesWrong : ChangeSpec := { name := "checkApplies", fn := fun _ => fun
  | [d1, d2, d3] => { results := [.lit (.bool false)], args := [d1, d2, d3] }
  | _ => none }
def CheckAppliesWrongFalsely : Prop := checkAppliesRow.holds Tryz.pinned (OpenSpec.ofChange checkAppliesWrong)

/-- 'rushlightlaw10.CheckFolds': WHATEVER THE INPUT: true; the input reads as it did. -/
def checkFoldsSpec : ChangeSpec := { name := "checkFolds", fn := fun _ => fun
  | [d] => { results := [.lit (.bool true)], args := [d] }
  | _ => none }
def checkFoldsRow : OpenClaim := { program := "ytpfgdpffgdengaagreat", sum := "a092c2bcd38eaef05b84f51c7dce3f0956a6a0c0ec8d8935f5a4822a78f92d7d", func := "rushlight/rushlightlaw10.CheckFolds", spec := "checkFolds", inPlace := ["internal/bytealg.IndexByteString", "internal/bytealg.IndexString"], unfollowed := true, recurses := true, named := ["internal/bytealg.MaxLen"], loops := true, apart := false }
def CheckFoldsSaid : Prop := checkFoldsRow.holds Tryz.pinned (OpenSpec.ofChange checkFoldsSpec)

/-- ITS FALSE NEIGHBOUR: 'it returns false'. Refute it at one input. -/
def checkFoldsWrong : ChangeSpec := { name := "checkFolds", fn := fun _ => fun
  | [d] => { results := [.lit (.bool false)], args := [d] }
  | _ => none }
def CheckFoldsWrongFalsely : Prop := checkFoldsRow.holds Tryz.pinned (OpenSpec.ofChange checkFoldsWrong)

/-- 'rushlightlaw10.CheckMore': WHATEVER THE INPUT: true; the input reads as it did. -/
def checkMoreSpec : ChangeSpec := { name := "checkMore", fn := fun _ => fun
  | [d] => { results := [.lit (.bool true)], args := [d] }
  | _ => none }
def checkMoreRow : OpenClaim := { program := "ytpfgdpffgdengaagreat", sum := "a092c2bcd38eaef05b84f51c7dce3f0956a6a0c0ec8d8935f5a4822a78f92d7d", func := "rushlight/rushlightlaw10.CheckMore", spec := "checkMore", inPlace := ["internal/bytealg.IndexByteString", "internal/bytealg.IndexString"], unfollowed := true, recurses := true, named := ["internal/bytealg.MaxLen"], apart := false }
def CheckMoreSaid : Prop := checkMoreRow.holds Tryz.pinned (OpenSpec.ofChange checkMoreSpec)

/-- ITS FALSE NEIGHBOUR: 'it returns false'. Refute it at one input. -/
def checkMoreWrong : ChangeSpec := { name := "checkMore", fn := fun _ => fun
  | [d] => { results := [.lit (.bool false)], args := [d] }
  | _ => none }
def CheckMoreWrongFalsely : Prop := checkMoreRow.holds Tryz.pinned (OpenSpec.ofChange checkMoreWrong)

/-- 'rushlightlaw10.CheckPlaces': WHATEVER THE INPUT: true; the input reads as it did. -/
def checkPlacesSpec : ChangeSpec := { name := "checkPlaces", fn := fun _ => fun
  | [d] => { results := [.lit (.bool true)], args := [d] }
  | _ => none }
def checkPlacesRow : OpenClaim := { program := "ytpfgdpffgdengaagreat", sum := "a092c2bcd38eaef05b84f51c7dce3f0956a6a0c0ec8d8935f5a4822a78f92d7d", func := "rushlight/rushlightlaw10.CheckPlaces", spec := "checkPlaces", inPlace := ["internal/bytealg.IndexByteString", "internal/bytealg.IndexString"], unfollowed := true, recurses := true, named := ["internal/bytealg.MaxLen"], apart := false }
def CheckPlacesSaid : Prop := checkPlacesRow.holds Tryz.pinned (OpenSpec.ofChange checkPlacesSpec)

/-- ITS FALSE NEIGHBOUR: 'it returns false'. Refute it at one input. -/
def checkPlacesWrong : ChangeSpec := { name := "checkPlaces", fn := fun _ => fun
  | [d] => { results := [.lit (.bool false)], args := [d] }
  | _ => none }
def CheckPlacesWrongFalsely : Prop := checkPlacesRow.holds Tryz.pinned (OpenSpec.ofChange checkPlacesWrong)

/- THE SECOND FORM. 'bulk': how many values and letters a reading holds, each counted each time it is reached (what is shared counts as often as it is met; a slice's spare places count too). A statement '..UptoSaid' is the law's where the arguments, and the package variables that the reading takes, are together of bulk at most 1048576: NARROWER than '..Said'. Prove '..Said' where nothing that the law and all that it calls make is longer than what came in: it says more and counts as full. Else prove '..UptoSaid'. A law counts once. -/
mutual
def uptoBulk {H : Type} : DataW H → Nat
  | .lit (.string bytes) => bytes.length + 1
  | .lit _ => 1
  | .nil => 1
  | .ptr d => uptoBulk d + 1
  | .slice elems spare => uptoBulkAll elems + uptoBulkAll spare + 1
  | .agg parts => uptoBulkAll parts + 1
  | .iface _ d => uptoBulk d + 1
  | .map entries => uptoBulkEntries entries + 1
  | .held _ => 1
def uptoBulkAll {H : Type} : List (DataW H) → Nat
  | [] => 0
  | d :: r => uptoBulk d + uptoBulkAll r
def uptoBulkEntries {H : Type} : List (Lit × DataW H) → Nat
  | [] => 0
  | x :: r => uptoBulkEntry x + uptoBulkEntries r
def uptoBulkEntry {H : Type} : Lit × DataW H → Nat
  | (.string bytes, d) => bytes.length + uptoBulk d + 1
  | (_, d) => uptoBulk d + 1
 end
def uptoSmall : (H : Type) → List (DataW H) → Bool := fun _ ds => decide (uptoBulkAll ds ≤ 1048576)
def OpenSpec.upto (s : _root_.Go.ChangeSpec) : _root_.Go.OpenSpec := { _root_.Go.OpenSpec.ofChange s with cond := some uptoSmall }

/-- 'rushlightlaw10.CheckApplies', WHERE WHAT IT READS IS OF BULK AT MOST 1048576: true; the input reads as it did. -/
def checkAppliesUptoRow : OpenClaim := { program := "ytpfgdpffgdengaagreat", sum := "a092c2bcd38eaef05b84f51c7dce3f0956a6a0c0ec8d8935f5a4822a78f92d7d", func := "rushlight/rushlightlaw10.CheckApplies", spec := "checkApplies", inPlace := ["internal/bytealg.IndexByteString", "internal/bytealg.IndexString"], unfollowed := true, recurses := true, named := ["internal/bytealg.MaxLen"], apart := false, narrowed := true }
def CheckAppliesUptoSaid : Prop := checkAppliesUptoRow.holds Tryz.pinned (OpenSpec.upto checkAppliesSpec)

/-- 'rushlightlaw10.CheckFolds', WHERE WHAT IT READS IS OF BULK AT MOST 1048576: true; the input reads as it did. -/
def checkFoldsUptoRow : OpenClaim := { program := "ytpfgdpffgdengaagreat", sum := "a092c2bcd38eaef05b84f51c7dce3f0956a6a0c0ec8d8935f5a4822a78f92d7d", func := "rushlight/rushlightlaw10.CheckFolds", spec := "checkFolds", inPlace := ["internal/bytealg.IndexByteString", "internal/bytealg.IndexString"], unfollowed := true, recurses := true, named := ["internal/bytealg.MaxLen"], loops := true, apart := false, narrowed := true }
def CheckFoldsUptoSaid : Prop := checkFoldsUptoRow.holds Tryz.pinned (OpenSpec.upto checkFoldsSpec)

/-- 'rushlightlaw10.CheckMore', WHERE WHAT IT READS IS OF BULK AT MOST 1048576: true; the input reads as it did. -/
def checkMoreUptoRow : OpenClaim := { program := "ytpfgdpffgdengaagreat", sum := "a092c2bcd38eaef05b84f51c7dce3f0956a6a0c0ec8d8935f5a4822a78f92d7d", func := "rushlight/rushlightlaw10.CheckMore", spec := "checkMore", inPlace := ["internal/bytealg.IndexByteString", "internal/bytealg.IndexString"], unfollowed := true, recurses := true, named := ["internal/bytealg.MaxLen"], apart := false, narrowed := true }
def CheckMoreUptoSaid : Prop := checkMoreUptoRow.holds Tryz.pinned (OpenSpec.upto checkMoreSpec)

/-- 'rushlightlaw10.CheckPlaces', WHERE WHAT IT READS IS OF BULK AT MOST 1048576: true; the input reads as it did. -/
def checkPlacesUptoRow : OpenClaim := { program := "ytpfgdpffgdengaagreat", sum := "a092c2bcd38eaef05b84f51c7dce3f0956a6a0c0ec8d8935f5a4822a78f92d7d", func := "rushlight/rushlightlaw10.CheckPlaces", spec := "checkPlaces", inPlace := ["internal/bytealg.IndexByteString", "internal/bytealg.IndexString"], unfollowed := true, recurses := true, named := ["internal/bytealg.MaxLen"], apart := false, narrowed := true }
def CheckPlacesUptoSaid : Prop := checkPlacesUptoRow.holds Tryz.pinned (OpenSpec.upto checkPlacesSpec)

end Rows
end Go.Proofs.YtpfgdpffgdengaaGreat
