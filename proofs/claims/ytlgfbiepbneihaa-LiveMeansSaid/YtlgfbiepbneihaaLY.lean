/- Registers that play a part: the example; lengths; registers that play none. -/
import Derived.Test.YtlgfbiepbneihaaLX
import Derived.Test.YtlgfbiepbneihaaVC
namespace Go.Ab.Try
open Go.Proofs Go.Ab
set_option linter.unusedVariables false
set_option linter.unusedSimpArgs false
set_option linter.unnecessarySimpa false
def exL : List Ins := [(2, 3, 5, 0, 0), (14, 3, 0, 0, 0)]
def lvE : List B8 := [⟨false, false, false, false, false, true, false, false⟩, ⟨false, false, false, true, false, false, false, false⟩, noB]
theorem live_ex : liveS exL = lvE := by
  have e : lvE = sweepS exL (sweepS exL (List.replicate 3 noB) 2) 2 := by decide +kernel
  refine live_of ?_ ⟨rfl, fun k hk => ?_, rfl⟩
  · rw [e]; exact low_sweep (low_sweep (low_start exL) (Nat.le_refl _)) (Nat.le_refl _)
  · have : k = 0 ∨ k = 1 := by have : exL.length = 2 := rfl; omega
    rcases this with rfl | rfl <;> decide +kernel
theorem live_len (code : List Ins) : (liveS code).length ≤ code.length + 1 := by
  unfold liveS; split
  · rename_i h; have := h.choose_spec.1.len; omega
  · simp
end Go.Ab.Try
