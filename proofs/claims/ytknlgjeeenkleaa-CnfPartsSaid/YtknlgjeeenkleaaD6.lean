/- Operations whose second number is known to be allowed. -/
import Derived.Test.YtknlgjeeenkleaaD5
namespace Go.Ab
set_option linter.unusedVariables false
set_option linter.unusedSimpArgs false
@[go_sem] theorem if_lt0 {α : Type} {b : Int} {x y : α} (h : 0 ≤ b) : (if b < 0 then x else y) = y := if_neg (by omega)
@[go_sem] theorem if_eq0 {α : Type} {b : Int} {x y : α} (h : b ≠ 0) : (if b = 0 then x else y) = y := if_neg h
theorem wrapU_nonneg (n : Int) : 0 ≤ IntKind.u64.wrap n := by rw [wrap_u64']; omega
@[go_sem] theorem wrapU_neg (n : Int) : (IntKind.u64.wrap n < 0) = False := by have := wrapU_nonneg n; simp; omega
theorem bit_nextS {T x i : Int} (h0 : 0 ≤ i) (hx : x = T % p2 i) (h64 : i < 64) {b : Bool} (hb : b = decide (T / p2 i % 2 = 1)) : ior .u64 x (ishl .u64 (if b = true then 1 else 0) i) = T % p2 (i + 1) := by
  have e : ishl .u64 (if b = true then 1 else 0) i = (if b = true then 1 else 0) * p2 i := by
    rw [ishl_u64 (by omega)]
    have := p2_pos i
    have h2 : p2 i < p2 64 := p2_lt h0 h64
    rw [p2_64] at h2
    exact Int.emod_eq_of_lt (by split <;> omega) (by split <;> omega)
  subst hx
  have hm : 0 ≤ T % p2 i ∧ T % p2 i < p2 i := ⟨Int.emod_nonneg _ (by have := p2_pos i; omega), Int.emod_lt_of_pos _ (p2_pos i)⟩
  rw [e, ior_bit hm.1 h0 h64 hm.2 (by split <;> simp), bits_succ T h0]
  by_cases h : T / p2 i % 2 = 1
  · simp [hb, h]
  · have : T / p2 i % 2 = 0 := by omega
    simp [hb, this]
end Go.Ab
