/-
  No cell of these rows narrows 'for every input' (looked for: loops, veiled, ifaces, maps, wideKeys, modest, calm, conditions, laid).
  DERIVED. THE GIVEN ROWS OF THIS SEAT. 3 by the template 'for every input the law returns true; each argument reads behind the call as it read before'; 0 by the template 'total and deterministic' (their statements: YtbfpdnogfkbiaaaGreatTotals.lean).
  GIVEN WITH THE SEED: the statements are not yours to turn. If you find one false, say at which input.
  Laid BY PROGRAM, IN A SANDBOX (cutbox-rows.mjs): the forced cells as the released guide's own fill.sh prints them over the translation 399a63480844f522… (all of the seat's roots in one cut). By AI agents, Wed Nov 11 2026. No macro, syntax, notation, axiom, sorry.
-/
import Derived.Test.YtbfpdnogfkbiaaaGreatChecked
import GoSem.Claim
import GoSem.ClaimJoined
import GoSem.ClaimMapViews
import Derived.JoinedTies
import Derived.KernelRfl
namespace Go.Proofs.YtbfpdnogfkbiaaaGreat
/- THE CELL 'sum', in the pinned program and in every row, IS THE sha256 OF THE DUMP (.gsa) THAT YtbfpdnogfkbiaaaGreatProg.lean LOADS. Nothing in Lean hashes anything: it is a label: what it is worth is what the hold of that sum in a sandbox is worth. -/
noncomputable def Tryz.pinned : Pinned := { name := "ytbfpdnogfkbiaaagreat", sum := "399a63480844f5228694de456863215679a56a05d0f7cc0def8e3105bd41ce42", checked := Tryz.checked }
namespace Rows
def none {H : Type} : Left H := { results := [], args := [] }

/-- 'rushlightlaw12.InterpFuel': WHATEVER THE INPUT: true; the input reads as it did. -/
def interpFuelSpec : ChangeSpec := { name := "interpFuel", fn := fun _ => fun
  | [d] => { results := [.lit (.bool true)], args := [d] }
  | _ => none }
def interpFuelRow : OpenClaim := { program := "ytbfpdnogfkbiaaagreat", sum := "399a63480844f5228694de456863215679a56a05d0f7cc0def8e3105bd41ce42", func := "rushlight/rushlightlaw12.InterpFuel", spec := "interpFuel", inPlace := ["internal/bytealg.IndexByteString", "internal/bytealg.IndexString"], unfollowed := true, recurses := true, named := ["internal/bytealg.MaxLen"], apart := false }
def InterpFuelSaid : Prop := interpFuelRow.holds Tryz.pinned (OpenSpec.ofChange interpFuelSpec)

/-- ITS FALSE NEIGHBOUR: 'it returns false'. Refute it at one input. -/
def interpFuelWrong : ChangeSpec := { name := "interpFuel", fn := fun _ => fun
  | [d] => { results := [.lit (.bool false)], args := [d] }
  | _ => none }
def InterpFuelWrongFalsely : Prop := interpFuelRow.holds Tryz.pinned (OpenSpec.ofChange interpFuelWrong)

/-- 'rushlightlaw12.InterpInputs': WHATEVER THE INPUT: true; the input reads as it did. -/
def interpInputsSpec : ChangeSpec := { name := "interpInputs", fn := fun _ => fun
  | [d1, d2, d3] => { results := [.lit (.bool true)], args := [d1, d2, d3] }
  | _ => none }
def interpInputsRow : OpenClaim := { program := "ytbfpdnogfkbiaaagreat", sum := "399a63480844f5228694de456863215679a56a05d0f7cc0def8e3105bd41ce42", func := "rushlight/rushlightlaw12.InterpInputs", spec := "interpInputs", inPlace := ["internal/bytealg.IndexByteString", "internal/bytealg.IndexString"], unfollowed := true, recurses := true, named := ["internal/bytealg.MaxLen"], apart := false }
def InterpInputsSaid : Prop := interpInputsRow.holds Tryz.pinned (OpenSpec.ofChange interpInputsSpec)

/-- ITS FALSE NEIGHBOUR: 'it returns false'. Refute it at one input. -/
def interpInputsWrong : ChangeSpec := { name := "interpInputs", fn := fun _ => fun
  | [d1, d2, d3] => { results := [.lit (.bool false)], args := [d1, d2, d3] }
  | _ => none }
def InterpInputsWrongFalsely : Prop := interpInputsRow.holds Tryz.pinned (OpenSpec.ofChange interpInputsWrong)

/-- 'rushlightlaw12.InterpExits': WHATEVER THE INPUT: true; the input reads as it did. -/
def interpExitsSpec : ChangeSpec := { name := "interpExits", fn := fun _ => fun
  | [d1, d2, d3] => { results := [.lit (.bool true)], args := [d1, d2, d3] }
  | _ => none }
def interpExitsRow : OpenClaim := { program := "ytbfpdnogfkbiaaagreat", sum := "399a63480844f5228694de456863215679a56a05d0f7cc0def8e3105bd41ce42", func := "rushlight/rushlightlaw12.InterpExits", spec := "interpExits", inPlace := ["internal/bytealg.IndexByteString", "internal/bytealg.IndexString"], unfollowed := true, recurses := true, named := ["internal/bytealg.MaxLen"], apart := false }
def InterpExitsSaid : Prop := interpExitsRow.holds Tryz.pinned (OpenSpec.ofChange interpExitsSpec)

/-- ITS FALSE NEIGHBOUR: 'it returns false'. Refute it at one input. -/
def interpExitsWrong : ChangeSpec := { name := "interpExits", fn := fun _ => fun
  | [d1, d2, d3] => { results := [.lit (.bool false)], args := [d1, d2, d3] }
  | _ => none }
def InterpExitsWrongFalsely : Prop := interpExitsRow.holds Tryz.pinned (OpenSpec.ofChange interpExitsWrong)

/- THE SECOND FORM. 'bulk': how many values and letters a reading holds, each counted each time it is reached (what is shared counts as often as it is met; a slice's spare places count too). A statement '..UptoSaid' is the law's where the arguments, and the package variables that the reading takes, are together of bulk at most 1048576: NARROWER than '..Said'. Prove '..Said' where nothing that the law and all that it calls make is longer than what came in: it says more and counts as full. Else prove '..UptoSaid'. A law counts once. -/
mutual
def uptoBulk {H : Type} : DataW H → Nat
  | .lit (.string bytes) => bytes.length + 1
  | .lit _ => 1
  | .nil => 1
  | .ptr d => uptoBulk d + 1
  | .slice elems spare => uptoBulkAll elems + uptoBulkAll spare + 1
  | .agg parts => uptoBulkAll parts + 1
  | .iface _ d => uptoBulk d + 1
  | .map entries => uptoBulkEntries entries + 1
  | .held _ => 1
def uptoBulkAll {H : Type} : List (DataW H) → Nat
  | [] => 0
  | d :: r => uptoBulk d + uptoBulkAll r
def uptoBulkEntries {H : Type} : List (Lit × DataW H) → Nat
  | [] => 0
  | x :: r => uptoBulkEntry x + uptoBulkEntries r
def uptoBulkEntry {H : Type} : Lit × DataW H → Nat
  | (.string bytes, d) => bytes.length + uptoBulk d + 1
  | (_, d) => uptoBulk d + 1
 end
def uptoSmall : (H : Type) → List (DataW H) → Bool := fun _ ds => decide (uptoBulkAll ds ≤ 1048576)
def OpenSpec.upto (s : _root_.Go.ChangeSpec) : _root_.Go.OpenSpec := { _root_.Go.OpenSpec.ofChange s with cond := some uptoSmall }

/-- 'rushlightlaw12.InterpFuel', WHERE WHAT IT READS IS OF BULK AT MOST 1048576: true; the input reads as it did. -/
def interpFuelUptoRow : OpenClaim := { program := "ytbfpdnogfkbiaaagreat", sum := "399a63480844f5228694de456863215679a56a05d0f7cc0def8e3105bd41ce42", func := "rushlight/rushlightlaw12.InterpFuel", spec := "interpFuel", inPlace := ["internal/bytealg.IndexByteString", "internal/bytealg.IndexString"], unfollowed := true, recurses := true, named := ["internal/bytealg.MaxLen"], apart := false, narrowed := true }
def InterpFuelUptoSaid : Prop := interpFuelUptoRow.holds Tryz.pinned (OpenSpec.upto interpFuelSpec)

/-- 'rushlightlaw12.InterpInputs', WHERE WHAT IT READS IS OF BULK AT MOST 1048576: true; the input reads as it did. -/
def interpInputsUptoRow : OpenClaim := { program := "ytbfpdnogfkbiaaagreat", sum := "399a63480844f5228694de456863215679a56a05d0f7cc0def8e3105bd41ce42", func := "rushlight/rushlightlaw12.InterpInputs", spec := "interpInputs", inPlace := ["internal/bytealg.IndexByteString", "internal/bytealg.IndexString"], unfollowed := true, recurses := true, named := ["internal/bytealg.MaxLen"], apart := false, narrowed := true }
def InterpInputsUptoSaid : Prop := interpInputsUptoRow.holds Tryz.pinned (OpenSpec.upto interpInputsSpec)

/-- 'rushlightlaw12.InterpExits', WHERE WHAT IT READS IS OF BULK AT MOST 1048576: true; the input reads as it did. -/
def interpExitsUptoRow : OpenClaim := { program := "ytbfpdnogfkbiaaagreat", sum := "399a63480844f5228694de456863215679a56a05d0f7cc0def8e3105bd41ce42", func := "rushlight/rushlightlaw12.InterpExits", spec := "interpExits", inPlace := ["internal/bytealg.IndexByteString", "internal/bytealg.IndexString"], unfollowed := true, recurses := true, named := ["internal/bytealg.MaxLen"], apart := false, narrowed := true }
def InterpExitsUptoSaid : Prop := interpExitsUptoRow.holds Tryz.pinned (OpenSpec.upto interpExitsSpec)

end Rows
end Go.Proofs.YtbfpdnogfkbiaaaGreat
