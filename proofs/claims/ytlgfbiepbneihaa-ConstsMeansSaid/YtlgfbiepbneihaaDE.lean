/- A region that draws its order, with a call that is gone through: what it waits for comes first, what waits for it follows. -/
import Derived.Test.YtlgfbiepbneihaaDD
namespace Go.Ab
open Go.RowKit
set_option linter.unusedVariables false
set_option linter.unusedSimpArgs false
set_option linter.unnecessarySimpa false

section
variable {P : Program} {ops opsA : Array Oper} {Q Q' : Exit → Act → World → Prop}
def Clo (ops : Array Oper) (l : Array Bool) : Prop := ∀ j o, ops.toList[j]? = some o → l.getD j false = true → ∀ e ∈ o.after, Region.binds .any e = true → l.getD e.on false = true
theorem Clo.set {l : Array Bool} {j : Nat} (hl : l.size = ops.size) (hc : Clo ops l) (h : j ∈ Region.ready .any ops l) : Clo ops (l.setIfInBounds j true) := by
  intro i oi hoi hL e' he' hb
  by_cases hij : j = i
  · subst hij
    rw [mem_ready] at h
    obtain ⟨_, o, h2, h3⟩ := h
    have : ops.toList[j]? = some o := by simpa using h2
    rw [hoi] at this; injection this with this; subst this
    exact getD_set_true (h3 e' he' hb)
  · rw [getD_set_ne false hij] at hL
    exact getD_set_true (hc i oi hoi hL e' he' hb)
end

section
variable {P : Program} {z : Ini} {ops pre post : List Oper} {id n : Nat} {t : List AV} {h : List ABlk} {Q : Exit → St → Prop} {t2 : List AV} {g1 : List (Nat × Path)} {i : Nat}
end
end Go.Ab
