/- The plain laws of words of w bits. -/
import Derived.Test.YtlgfbiepbneihaaKD
namespace Go.Ab
set_option linter.unusedVariables false
set_option linter.unusedSimpArgs false

def fitW (w : Int) : Prop := 1 ≤ w ∧ w ≤ 64
instance (w : Int) : Decidable (fitW w) := by unfold fitW; infer_instance
def maskW (w : Int) : Int := if fitW w then p2 w - 1 else 0
def cutW (w x : Int) : Int := if fitW w then x % p2 w else 0
def sgnW (w x : Int) : Int := if fitW w then (if x % p2 w < p2 (w - 1) then x % p2 w else x % p2 w - p2 w) else 0

theorem p2_64le {w : Int} (h : w ≤ 64) : p2 w ≤ 18446744073709551616 := by have := p2_le h; rwa [p2_64] at this
theorem p2_half {w : Int} (h : fitW w) : p2 w = 2 * p2 (w - 1) := by
  have := p2_succ (a := w - 1) (by unfold fitW at h; omega)
  rwa [show w - 1 + 1 = w by omega] at this
theorem p2_rest {w : Int} (h : fitW w) : 18446744073709551616 = p2 w * p2 (64 - w) := by
  unfold fitW at h
  rw [← p2_add (by omega) (by omega), show w + (64 - w) = 64 by omega, p2_64]
theorem mod_mod {w : Int} (h : fitW w) (x : Int) : x % 18446744073709551616 % p2 w = x % p2 w := by
  rw [p2_rest h]; exact Int.emod_emod_of_dvd x ⟨_, rfl⟩
theorem maskW_W {w : Int} : W64 (maskW w) := by
  unfold maskW; split
  · rename_i h; have h1 := p2_pos w; have h2 := p2_64le h.2; constructor <;> omega
  · constructor <;> omega
theorem mod_W {w : Int} (h : fitW w) (x : Int) : W64 (x % p2 w) := by
  have h1 := p2_pos w; have h2 := p2_64le h.2
  have h3 := Int.emod_nonneg x (show p2 w ≠ 0 by omega); have h4 := Int.emod_lt_of_pos x h1
  constructor <;> omega
theorem cutW_W {w x : Int} : W64 (cutW w x) := by
  unfold cutW; split
  · rename_i h; exact mod_W h x
  · constructor <;> omega
theorem and_mask {w x : Int} : iand .u64 x (maskW w) = cutW w x := by
  have e : iand .u64 x (maskW w) = iand .u64 (x % 18446744073709551616) (maskW w) := by
    have : BitVec.ofInt 64 x = BitVec.ofInt 64 (x % 18446744073709551616) := by
      apply BitVec.eq_of_toNat_eq
      rw [BitVec.toNat_ofInt, BitVec.toNat_ofInt]
      have : ((2 ^ 64 : Nat) : Int) = 18446744073709551616 := by decide
      rw [this]; omega
    show IntKind.u64.wrap (BitVec.ofInt 64 x &&& BitVec.ofInt 64 (maskW w)).toNat = IntKind.u64.wrap (BitVec.ofInt 64 (x % 18446744073709551616) &&& BitVec.ofInt 64 (maskW w)).toNat
    rw [this]
  rw [e]
  have hx := w64_mod x
  unfold maskW cutW
  split
  · rename_i h; rw [iand_low hx (by have := h.1; omega) h.2, mod_mod h]
  · rw [iand_u64 hx ⟨by omega, by omega⟩]; simp
theorem sgnW_rng {w x : Int} (h : fitW w) : -p2 (w - 1) ≤ sgnW w x ∧ sgnW w x < p2 (w - 1) := by
  have h2 := p2_pos w; have h3 := p2_half h
  have b1 := Int.emod_nonneg x (show p2 w ≠ 0 by omega); have b2 := Int.emod_lt_of_pos x h2
  unfold sgnW; rw [if_pos h]
  split <;> omega
/-- The bits above, put: a number with a sign. -/
theorem ior_high {w c : Int} (h : fitW w) (h0 : 0 ≤ c) (hc : c < p2 w) : ior .u64 c (18446744073709551615 - (p2 w - 1)) = c + (18446744073709551616 - p2 w) := by
  have h1 := p2_pos w; have h2 := p2_64le h.2
  have e := p2_rest h
  rw [ior_u64 ⟨by omega, by omega⟩ ⟨by omega, by omega⟩, Nat.or_comm]
  have e2 : (18446744073709551615 - (p2 w - 1)).toNat = 2 ^ w.toNat * (p2 (64 - w) - 1).toNat := by
    have : 18446744073709551615 - (p2 w - 1) = p2 w * (p2 (64 - w) - 1) := by rw [Int.mul_sub, ← e]; omega
    rw [this, Int.toNat_mul (by omega) (by have := p2_pos (64 - w); omega), p2_nat, Int.toNat_natCast]
  have hl : c.toNat < 2 ^ w.toNat := by rw [p2_nat] at hc; omega
  rw [e2, ← Nat.two_pow_add_eq_or_of_lt hl, ← e2]; omega
end Go.Ab
