import Derived.Test.YteoihjfnojgnnaaGreatRow
import Derived.Test.YteoihjfnojgnnaaGreatL24k
set_option linter.unusedVariables false
namespace Go.Proofs.YteoihjfnojgnnaaGreat
theorem wfM_of {m : GModule} {A B C D : Prop} {E1 E2 E3 E4 E5 E6 : Proc → Prop} {F1 F2 : GBlock → Prop} {G1 G2 G3 G4 G5 G6 G7 G8 G9 H G10 : Ins → Prop}
    (h : A ∧ (B ∧ (((∀ p ∈ m.Procs, E1 p ∧ (E2 p ∧ (E3 p ∧ (E4 p ∧ (E5 p ∧ ((∀ b ∈ p.Blocks, ((∀ i ∈ b.Ins, G1 i ∧ (G2 i ∧ (G3 i ∧ (G4 i ∧ (G5 i ∧ (G6 i ∧ (G7 i ∧ (G8 i ∧ (G9 i ∧ ((H i ∧ i.Args.length ≤ maxLen) ∧ G10 i)))))))))) ∧ F1 b) ∧ F2 b) ∧ E6 p)))))) ∧ C) ∧ D))) : WfM m :=
  fun p hp b hb i hi => (((h.2.2.1.1 p hp).2.2.2.2.2.1 b hb).1.1 i hi).2.2.2.2.2.2.2.2.2.1.2
theorem AllocAssigns_row (m : GModule) (n regs : Int) {A B C D N : Prop} {E1 E2 E3 E4 E5 E6 : Proc → Prop} {F1 F2 : GBlock → Prop} {G1 G2 G3 G4 G5 G6 G7 G8 G9 H G10 : Ins → Prop}
    (h : A ∧ (B ∧ (((∀ p ∈ m.Procs, E1 p ∧ (E2 p ∧ (E3 p ∧ (E4 p ∧ (E5 p ∧ ((∀ b ∈ p.Blocks, ((∀ i ∈ b.Ins, G1 i ∧ (G2 i ∧ (G3 i ∧ (G4 i ∧ (G5 i ∧ (G6 i ∧ (G7 i ∧ (G8 i ∧ (G9 i ∧ ((H i ∧ i.Args.length ≤ maxLen) ∧ G10 i)))))))))) ∧ F1 b) ∧ F2 b) ∧ E6 p)))))) ∧ C) ∧ D))) (_ : N) {O : Prop} (_ : O) : law24_AllocAssigns m n regs = some true := AllocAssigns_law m n regs (wfM_of h)
end Go.Proofs.YteoihjfnojgnnaaGreat
