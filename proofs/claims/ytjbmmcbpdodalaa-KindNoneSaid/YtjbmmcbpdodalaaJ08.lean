import Derived.Test.YtjbmmcbpdodalaaRow
import Derived.Test.YtjbmmcbpdodalaaL08
set_option linter.unusedVariables false
namespace Go.Proofs.Ytjbmmcbpdodalaa
abbrev wfAct (y : law08Act) : Prop := wfI .i64 y.Kind ∧ (wfI .i64 y.N ∧ (wfI .i64 y.Long ∧ (y.Name.length ≤ maxLen ∧ ((∀ x ∈ y.Fields, (x.Name.length ≤ maxLen ∧ (wfI .i64 x.Type_ ∧ wfI .i64 x.At))) ∧ y.Fields.length ≤ maxLen))))
theorem mxl : maxLen ≤ 9223372036854775807 := by decide
theorem wf_act {y : law08Act} (h : wfAct y) : wfA y ∧ y.Fields.length ≤ 9223372036854775807 := ⟨wf_i64 h.2.2.1, Nat.le_trans h.2.2.2.2.2 mxl⟩
theorem KindOnce_row (l : List law08Act) (n long : Int) (h : (∀ x ∈ l, wfAct x) ∧ l.length ≤ maxLen) (_ : wfI .i64 n) (hl : wfI .i64 long) : law08_KindOnce l n long = some true :=
  KindOnce_law l n long (fun a ha => (wf_act (h.1 a ha)).1) (Nat.le_trans h.2 mxl) (fun a ha => (wf_act (h.1 a ha)).2) (wf_i64 hl)
theorem KindFinds_row (l : List law08Act) (n : Int) (s : List UInt8) (h : (∀ x ∈ l, wfAct x) ∧ l.length ≤ maxLen) (_ : wfI .i64 n) (_ : s.length ≤ maxLen) : law08_KindFinds l n s = some true :=
  KindFinds_law l n s (fun a ha => (wf_act (h.1 a ha)).1) (Nat.le_trans h.2 mxl) (fun a ha => (wf_act (h.1 a ha)).2)
theorem KindLies_row (l : List law08Act) (h : (∀ x ∈ l, wfAct x) ∧ l.length ≤ maxLen) : law08_KindLies l = some true :=
  KindLies_law l (fun a ha => (wf_act (h.1 a ha)).1) (Nat.le_trans h.2 mxl) (fun a ha => (wf_act (h.1 a ha)).2)
theorem KindMakes_row (l : List law08Act) (h : (∀ x ∈ l, wfAct x) ∧ l.length ≤ maxLen) : law08_KindMakes l = some true :=
  KindMakes_law l (fun a ha => (wf_act (h.1 a ha)).1) (Nat.le_trans h.2 mxl) (fun a ha => (wf_act (h.1 a ha)).2)
theorem KindNone_row (a : law08Act) (n : Int) (h : wfAct a) (_ : wfI .i64 n) : law08_KindNone a n = some true :=
  KindNone_law a n (wf_act h).1 (wf_act h).2
end Go.Proofs.Ytjbmmcbpdodalaa
