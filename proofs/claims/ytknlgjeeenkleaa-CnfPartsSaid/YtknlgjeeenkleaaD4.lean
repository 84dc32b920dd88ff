/- Words of 64 bits, as numbers. -/
import Derived.Test.YtknlgjeeenkleaaD3
namespace Go.Ab
set_option linter.unusedVariables false
set_option linter.unusedSimpArgs false

def W64 (n : Int) : Prop := 0 ≤ n ∧ n < 18446744073709551616
theorem W64.u {n : Int} (h : U64 n) : W64 n := by unfold U64 at h; unfold W64; omega
theorem W64.wrap {n : Int} (h : W64 n) : IntKind.u64.wrap n = n := by rw [wrap_u64']; unfold W64 at h; omega
theorem w64_mod (n : Int) : W64 (n % 18446744073709551616) := by unfold W64; omega
theorem w64_wrap (n : Int) : W64 (IntKind.u64.wrap n) := by rw [wrap_u64']; exact w64_mod n
def p2 (w : Int) : Int := 2 ^ w.toNat
theorem p2_pos (w : Int) : 0 < p2 w := Int.pow_pos (by omega)
theorem p2_nat (w : Int) : p2 w = ((2 ^ w.toNat : Nat) : Int) := by simp [p2]
theorem p2_add {a b : Int} (ha : 0 ≤ a) (hb : 0 ≤ b) : p2 (a + b) = p2 a * p2 b := by
  unfold p2; rw [Int.toNat_add ha hb, Int.pow_add]
theorem p2_64 : p2 64 = 18446744073709551616 := by decide
theorem p2_succ {a : Int} (ha : 0 ≤ a) : p2 (a + 1) = 2 * p2 a := by rw [p2_add ha (by omega)]; have : p2 1 = 2 := by decide
                                                                     rw [this]; omega
theorem p2_le {a b : Int} (h : a ≤ b) : p2 a ≤ p2 b := by
  rw [p2_nat, p2_nat]; exact_mod_cast Nat.pow_le_pow_right (by omega) (by omega)
theorem p2_lt {a b : Int} (ha : 0 ≤ a) (h : a < b) : p2 a < p2 b := by
  rw [p2_nat, p2_nat]; exact_mod_cast Nat.pow_lt_pow_right (by omega) (by omega)
theorem ofInt_nat {a : Int} (h : W64 a) : (BitVec.ofInt 64 a).toNat = a.toNat := by
  rw [BitVec.toNat_ofInt]; unfold W64 at h
  have : ((2 ^ 64 : Nat) : Int) = 18446744073709551616 := by decide
  rw [this]; omega
theorem iand_u64 {a b : Int} (ha : W64 a) (hb : W64 b) : iand .u64 a b = ((a.toNat &&& b.toNat : Nat) : Int) := by
  have e : iand .u64 a b = IntKind.u64.wrap (BitVec.ofInt 64 a &&& BitVec.ofInt 64 b).toNat := rfl
  rw [e, BitVec.toNat_and, ofInt_nat ha, ofInt_nat hb]
  refine W64.wrap ⟨by omega, ?_⟩
  have := Nat.and_le_left (n := a.toNat) (m := b.toNat)
  unfold W64 at ha; omega
theorem ior_u64 {a b : Int} (ha : W64 a) (hb : W64 b) : ior .u64 a b = ((a.toNat ||| b.toNat : Nat) : Int) := by
  have e : ior .u64 a b = IntKind.u64.wrap (BitVec.ofInt 64 a ||| BitVec.ofInt 64 b).toNat := rfl
  rw [e, BitVec.toNat_or, ofInt_nat ha, ofInt_nat hb]
  unfold W64 at ha hb
  have := Nat.or_lt_two_pow (x := a.toNat) (y := b.toNat) (n := 64) (by omega) (by omega)
  exact W64.wrap ⟨by omega, by omega⟩
theorem ixor_u64 {a b : Int} (ha : W64 a) (hb : W64 b) : ixor .u64 a b = ((a.toNat ^^^ b.toNat : Nat) : Int) := by
  have e : ixor .u64 a b = IntKind.u64.wrap (BitVec.ofInt 64 a ^^^ BitVec.ofInt 64 b).toNat := rfl
  rw [e, BitVec.toNat_xor, ofInt_nat ha, ofInt_nat hb]
  unfold W64 at ha hb
  have := Nat.xor_lt_two_pow (x := a.toNat) (y := b.toNat) (n := 64) (by omega) (by omega)
  exact W64.wrap ⟨by omega, by omega⟩
theorem W64_iand {a b : Int} (ha : W64 a) (hb : W64 b) : W64 (iand .u64 a b) := by
  rw [iand_u64 ha hb]; have := Nat.and_le_left (n := a.toNat) (m := b.toNat); unfold W64 at *; omega
theorem iand_comm (k : IntKind) (a b : Int) : iand k a b = iand k b a := by unfold iand; rw [BitVec.and_comm]
theorem iand_low {x : Int} (hx : W64 x) {k : Int} (h0 : 0 ≤ k) (hk : k ≤ 64) : iand .u64 x (p2 k - 1) = x % p2 k := by
  have hp := p2_pos k
  have h2 := p2_le hk
  rw [p2_64] at h2
  rw [iand_u64 hx ⟨by omega, by omega⟩]
  have e : (p2 k - 1).toNat = 2 ^ k.toNat - 1 := by rw [p2_nat]; omega
  rw [e, Nat.and_two_pow_sub_one_eq_mod, p2_nat]
  unfold W64 at hx
  have : x = (x.toNat : Int) := by omega
  rw [this]; simp
theorem ishl_u64 {a b : Int} (h : b ≤ 64) : ishl .u64 a b = a * p2 b % 18446744073709551616 := by
  unfold ishl p2; rw [wrap_u64']
  have : min b.toNat IntKind.u64.bits = b.toNat := by simp only [IntKind.bits]; omega
  rw [this]
theorem ishl_big {a b : Int} (h : 64 ≤ b) : ishl .u64 a b = 0 := by
  unfold ishl; rw [wrap_u64']
  have : min b.toNat IntKind.u64.bits = 64 := by simp only [IntKind.bits]; omega
  rw [this]
  exact Int.mul_emod_left _ _
theorem ishr_u64 {a b : Int} (h : b ≤ 64) : ishr .u64 a b = a / p2 b := by
  unfold ishr p2
  have : min b.toNat IntKind.u64.bits = b.toNat := by simp only [IntKind.bits]; omega
  rw [this, Int.fdiv_eq_ediv_of_nonneg]; exact Int.pow_nonneg (by omega)
theorem ishr_i64 {a b : Int} (h : b ≤ 64) : ishr .i64 a b = a / p2 b := by
  unfold ishr p2
  have : min b.toNat IntKind.i64.bits = b.toNat := by simp only [IntKind.bits]; omega
  rw [this, Int.fdiv_eq_ediv_of_nonneg]; exact Int.pow_nonneg (by omega)
theorem icom_u64 {a : Int} (ha : W64 a) : ixor .u64 18446744073709551615 a = 18446744073709551615 - a := by
  rw [ixor_u64 ⟨by omega, by omega⟩ ha]
  unfold W64 at ha
  have e : (18446744073709551615 : Int).toNat = 2 ^ 64 - 1 := by decide
  rw [e]
  have : (2 ^ 64 - 1) ^^^ a.toNat = 2 ^ 64 - 1 - a.toNat := by
    have h1 : (~~~ (BitVec.ofNat 64 a.toNat)).toNat = 2 ^ 64 - 1 - a.toNat := by
      rw [BitVec.toNat_not, BitVec.toNat_ofNat, Nat.mod_eq_of_lt (by omega)]
    have h2 : (~~~ (BitVec.ofNat 64 a.toNat)) = BitVec.allOnes 64 ^^^ BitVec.ofNat 64 a.toNat := BitVec.not_def
    rw [h2, BitVec.toNat_xor, BitVec.toNat_allOnes, BitVec.toNat_ofNat, Nat.mod_eq_of_lt (by omega)] at h1
    exact h1
  rw [this]; omega
/-- The next bit, put above. -/
theorem ior_bit {x b i : Int} (hx : 0 ≤ x) (hi : 0 ≤ i) (h64 : i < 64) (hlt : x < p2 i) (hb : b = 0 ∨ b = 1) : ior .u64 x (b * p2 i) = x + b * p2 i := by
  have h2 : p2 (i + 1) ≤ p2 64 := p2_le (by omega)
  rw [p2_succ hi, p2_64] at h2
  have hp := p2_pos i
  have hb2 : W64 (b * p2 i) := by rcases hb with rfl | rfl <;> constructor <;> omega
  rw [ior_u64 ⟨hx, by omega⟩ hb2, Nat.or_comm]
  have e : (b * p2 i).toNat = 2 ^ i.toNat * b.toNat := by
    rcases hb with rfl | rfl
    · simp
    · rw [p2_nat, Int.one_mul, Int.toNat_natCast]; simp
  have hxl : x.toNat < 2 ^ i.toNat := by rw [p2_nat] at hlt; omega
  rw [e, ← Nat.two_pow_add_eq_or_of_lt hxl, ← e]
  rcases hb with rfl | rfl <;> omega
/-- A number's bits below, one by one. -/
theorem bits_succ (T : Int) {i : Int} (hi : 0 ≤ i) : T % p2 (i + 1) = T % p2 i + (T / p2 i % 2) * p2 i := by
  rw [p2_succ hi]
  have hp := p2_pos i
  have h1 := Int.emod_def T (2 * p2 i)
  have h2 := Int.emod_def T (p2 i)
  have h3 := Int.emod_def (T / p2 i) 2
  have h4 : T / (2 * p2 i) = T / p2 i / 2 := by rw [Int.mul_comm, Int.ediv_ediv_of_nonneg (Int.le_of_lt hp)]
  rw [h1, h2, h3, h4]
  generalize T / p2 i = q
  generalize q / 2 = r
  rw [Int.sub_mul, Int.mul_assoc, Int.mul_comm (p2 i) q, Int.mul_comm (p2 i) r, Int.mul_assoc]; omega
theorem div_p2 (T : Int) {a b : Int} (ha : 0 ≤ a) (hb : 0 ≤ b) : T / p2 a / p2 b = T / p2 (a + b) := by
  rw [p2_add ha hb, Int.ediv_ediv_of_nonneg (Int.le_of_lt (p2_pos a))]
end Go.Ab
