/- The plain laws of words of w bits. -/
import Derived.Test.YtlgfbiepbneihaaKD
namespace Go.Ab
set_option linter.unusedVariables false
set_option linter.unusedSimpArgs false

def fitW (w : Int) : Prop := 1 ≤ w ∧ w ≤ 64
instance (w : Int) : Decidable (fitW w) := by unfold fitW; infer_instance
def maskW (w : Int) : Int := if fitW w then p2 w - 1 else 0
def cutW (w x : Int) : Int := if fitW w then x % p2 w else 0
def sgnW (w x : Int) : Int := if fitW w then (if x % p2 w < p2 (w - 1) then x % p2 w else x % p2 w - p2 w) else 0

theorem p2_64le {w : Int} (h : w ≤ 64) : p2 w ≤ 18446744073709551616 := by have := p2_le h; rwa [p2_64] at this
theorem p2_half {w : Int} (h : fitW w) : p2 w = 2 * p2 (w - 1) := by
  have := p2_succ (a := w - 1) (by unfold fitW at h; omega)
  rwa [show w - 1 + 1 = w by omega] at this
theorem p2_rest {w : Int} (h : fitW w) : 18446744073709551616 = p2 w * p2 (64 - w) := by
  unfold fitW at h
  rw [← p2_add (by omega) (by omega), show w + (64 - w) = 64 by omega, p2_64]
theorem mod_mod {w : Int} (h : fitW w) (x : Int) : x % 18446744073709551616 % p2 w = x % p2 w := by
  rw [p2_rest h]; exact Int.emod_emod_of_dvd x ⟨_, rfl⟩
theorem maskW_W {w : Int} : W64 (maskW w) := by
  unfold maskW; split
  · rename_i h; have h1 := p2_pos w; have h2 := p2_64le h.2; constructor <;> omega
  · constructor <;> omega
theorem mod_W {w : Int} (h : fitW w) (x : Int) : W64 (x % p2 w) := by
  have h1 := p2_pos w; have h2 := p2_64le h.2
  have h3 := Int.emod_nonneg x (show p2 w ≠ 0 by omega); have h4 := Int.emod_lt_of_pos x h1
  constructor <;> omega
theorem cutW_W {w x : Int} : W64 (cutW w x) := by
  unfold cutW; split
  · rename_i h; exact mod_W h x
  · constructor <;> omega
/-- All bits of a width, out of all. -/
theorem ones_shr {w : Int} (h : fitW w) : ishr .u64 18446744073709551615 (64 - w) = p2 w - 1 := by
  unfold fitW at h
  rw [ishr_u64 (by omega)]
  have e := p2_rest h
  have h1 := p2_pos (64 - w); have h2 := p2_pos w
  have : (18446744073709551615 : Int) = (p2 w - 1) * p2 (64 - w) + (p2 (64 - w) - 1) := by
    rw [Int.sub_mul, ← e]; omega
  rw [this, Int.add_comm, Int.add_mul_ediv_right _ _ (by omega), Int.ediv_eq_zero_of_lt (by omega) (by omega)]; omega
theorem and_mask {w x : Int} : iand .u64 x (maskW w) = cutW w x := by
  have e : iand .u64 x (maskW w) = iand .u64 (x % 18446744073709551616) (maskW w) := by
    have : BitVec.ofInt 64 x = BitVec.ofInt 64 (x % 18446744073709551616) := by
      apply BitVec.eq_of_toNat_eq
      rw [BitVec.toNat_ofInt, BitVec.toNat_ofInt]
      have : ((2 ^ 64 : Nat) : Int) = 18446744073709551616 := by decide
      rw [this]; omega
    show IntKind.u64.wrap (BitVec.ofInt 64 x &&& BitVec.ofInt 64 (maskW w)).toNat = IntKind.u64.wrap (BitVec.ofInt 64 (x % 18446744073709551616) &&& BitVec.ofInt 64 (maskW w)).toNat
    rw [this]
  rw [e]
  have hx := w64_mod x
  unfold maskW cutW
  split
  · rename_i h; rw [iand_low hx (by have := h.1; omega) h.2, mod_mod h]
  · rw [iand_u64 hx ⟨by omega, by omega⟩]; simp
/-- Up and down again as a number with a sign. -/
theorem up_down {w x : Int} (h : fitW w) : ishr .i64 (IntKind.i64.wrap (ishl .u64 x (64 - w))) (64 - w) = sgnW w x := by
  have hw := h; unfold fitW at hw
  rw [ishl_u64 (by omega), ishr_i64 (by omega)]
  have e := p2_rest h
  have h1 := p2_pos (64 - w); have h2 := p2_pos w; have h3 := p2_half h
  have e2 : x * p2 (64 - w) % 18446744073709551616 = (x % p2 w) * p2 (64 - w) := by
    rw [e, Int.mul_comm x, Int.mul_comm (p2 w), Int.mul_emod_mul_of_pos _ _ h1, Int.mul_comm]
  rw [e2]
  unfold sgnW
  rw [if_pos h]
  have b1 := Int.emod_nonneg x (show p2 w ≠ 0 by omega); have b2 := Int.emod_lt_of_pos x h2
  generalize x % p2 w = c at *
  have eh : 9223372036854775808 = p2 (w - 1) * p2 (64 - w) := by
    have : p2 (w - 1) * p2 (64 - w) = p2 63 := by rw [← p2_add (by omega) (by omega)]; congr 1; omega
    rw [this]; decide
  split
  · rename_i hc
    have : c * p2 (64 - w) < 9223372036854775808 := by rw [eh]; exact Int.mul_lt_mul_of_pos_right hc h1
    have h0 : 0 ≤ c * p2 (64 - w) := Int.mul_nonneg b1 (by omega)
    rw [w64 (by omega) (by omega), Int.mul_ediv_cancel _ (by omega)]
  · rename_i hc
    have g1 : 9223372036854775808 ≤ c * p2 (64 - w) := by rw [eh]; exact Int.mul_le_mul_of_nonneg_right (by omega) (by omega)
    have g2 : c * p2 (64 - w) < 18446744073709551616 := by rw [e]; exact Int.mul_lt_mul_of_pos_right b2 h1
    have : IntKind.i64.wrap (c * p2 (64 - w)) = (c - p2 w) * p2 (64 - w) := by
      rw [wrap_i64', Int.sub_mul, ← e]; omega
    rw [this, Int.mul_ediv_cancel _ (by omega)]
theorem sgnW_rng {w x : Int} (h : fitW w) : -p2 (w - 1) ≤ sgnW w x ∧ sgnW w x < p2 (w - 1) := by
  have h2 := p2_pos w; have h3 := p2_half h
  have b1 := Int.emod_nonneg x (show p2 w ≠ 0 by omega); have b2 := Int.emod_lt_of_pos x h2
  unfold sgnW; rw [if_pos h]
  split <;> omega
/-- The bits above, put: a number with a sign. -/
theorem ior_high {w c : Int} (h : fitW w) (h0 : 0 ≤ c) (hc : c < p2 w) : ior .u64 c (18446744073709551615 - (p2 w - 1)) = c + (18446744073709551616 - p2 w) := by
  have h1 := p2_pos w; have h2 := p2_64le h.2
  have e := p2_rest h
  rw [ior_u64 ⟨by omega, by omega⟩ ⟨by omega, by omega⟩, Nat.or_comm]
  have e2 : (18446744073709551615 - (p2 w - 1)).toNat = 2 ^ w.toNat * (p2 (64 - w) - 1).toNat := by
    have : 18446744073709551615 - (p2 w - 1) = p2 w * (p2 (64 - w) - 1) := by rw [Int.mul_sub, ← e]; omega
    rw [this, Int.toNat_mul (by omega) (by have := p2_pos (64 - w); omega), p2_nat, Int.toNat_natCast]
  have hl : c.toNat < 2 ^ w.toNat := by rw [p2_nat] at hc; omega
  rw [e2, ← Nat.two_pow_add_eq_or_of_lt hl, ← e2]; omega
/-- With the highest bit turned words stand in the order of their numbers. -/
theorem xor_top {w c : Int} (h : fitW w) (h0 : 0 ≤ c) (hc : c < p2 w) : ixor .u64 c (p2 (w - 1)) = if c < p2 (w - 1) then c + p2 (w - 1) else c - p2 (w - 1) := by
  have hp := p2_pos (w - 1); have h2 := p2_64le h.2; have h3 := p2_half h
  have wb := h; unfold fitW at wb
  rw [ixor_u64 ⟨by omega, by omega⟩ ⟨by omega, by omega⟩]
  have e1 : (p2 (w - 1)).toNat = 2 ^ (w - 1).toNat := by rw [p2_nat, Int.toNat_natCast]
  rw [e1]
  have key : ∀ (k n : Nat), n < 2 * 2 ^ k → n ^^^ 2 ^ k = if n < 2 ^ k then n + 2 ^ k else n - 2 ^ k := by
    intro k n hn
    split
    · rename_i hlt
      apply Nat.eq_of_testBit_eq
      intro i
      rw [Nat.testBit_xor, Nat.testBit_two_pow, Nat.add_comm]
      by_cases hi : i = k
      · subst hi; rw [Nat.testBit_two_pow_add_eq]; simp
      · rcases Nat.lt_or_gt_of_ne hi with g | g
        · rw [Nat.testBit_two_pow_add_gt g]; simp [Ne.symm hi]
        · have t1 : n.testBit i = false := Nat.testBit_lt_two_pow (Nat.lt_of_lt_of_le hlt (Nat.pow_le_pow_right (by omega) (by omega)))
          have t2 : (2 ^ k + n).testBit i = false := Nat.testBit_lt_two_pow (by
            have : 2 ^ (k + 1) ≤ 2 ^ i := Nat.pow_le_pow_right (by omega) g
            rw [Nat.pow_succ] at this; omega)
          rw [t1, t2]; simp [Ne.symm hi]
    · rename_i hge
      have hm : n - 2 ^ k < 2 ^ k := by omega
      have e : n = 2 ^ k + (n - 2 ^ k) := by omega
      apply Nat.eq_of_testBit_eq
      intro i
      rw [Nat.testBit_xor, Nat.testBit_two_pow]
      by_cases hi : i = k
      · subst hi; rw [e, Nat.testBit_two_pow_add_eq]; simp [Nat.testBit_lt_two_pow hm]
      · rcases Nat.lt_or_gt_of_ne hi with g | g
        · rw [e, Nat.testBit_two_pow_add_gt g]; simp [Ne.symm hi]
        · have t1 : (n - 2 ^ k).testBit i = false := Nat.testBit_lt_two_pow (Nat.lt_of_lt_of_le hm (Nat.pow_le_pow_right (by omega) (by omega)))
          have t2 : n.testBit i = false := Nat.testBit_lt_two_pow (by
            have : 2 ^ (k + 1) ≤ 2 ^ i := Nat.pow_le_pow_right (by omega) g
            rw [Nat.pow_succ] at this; omega)
          rw [t1, t2]; simp [Ne.symm hi]
  have hn : c.toNat < 2 * 2 ^ (w - 1).toNat := by rw [← e1]; omega
  rw [key _ _ hn]
  rw [← e1]
  split <;> split <;> omega
end Go.Ab
