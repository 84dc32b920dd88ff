/- The plain laws of clauses counted. -/
import Derived.Test.YtalgjggmhhdkkaaDoorCL
import Derived.Test.YtalgjggmhhdkkaaDoorKD
namespace Go.Ab
set_option linter.unusedVariables false
set_option linter.unusedSimpArgs false
theorem AWL.runGP {P : Program} {z : Ini} {ops : Array Oper} {l l1 l2 : List Oper} {σ σ' : St} {Q : Exit → St → Prop} (k : Nat) (h1 : l.take k = l1) (h2 : l.drop k = l2) (he : Ab.runG P ops.toList l1 σ = ([], σ')) (h : AWL P z ops l2 σ' Q) : AWL P z ops l σ Q := by
  have key : ∀ (l1 : List Oper) (σ : St), Ab.runG P ops.toList l1 σ = ([], σ') → AWL P z ops (l1 ++ l2) σ Q := by
    intro l1
    induction l1 with
    | nil => intro σ he; simp only [Ab.runG] at he; injection he with _ he; subst he; exact h
    | cons o l1 ih =>
      intro σ he
      simp only [Ab.runG, onS] at he
      split at he
      · rename_i x hs
        exact .next2 hs (ih _ he)
      · injection he with he _; cases he
  have := key l1 σ he
  rw [← h1, ← h2, List.take_append_drop] at this
  exact this
end Go.Ab
