/- Bytes of numbers, numbers of bytes. -/
import Derived.Test.YtknlgjeeenkleaaD4
namespace Go.Ab
set_option linter.unusedVariables false
set_option linter.unusedSimpArgs false

theorem wrap_u8' (n : Int) : IntKind.u8.wrap n = n % 256 := by simp [IntKind.wrap, IntKind.bits, IntKind.signed]
theorem w8 {n : Int} (h1 : 0 ≤ n) (h2 : n < 256) : IntKind.u8.wrap n = n := by rw [wrap_u8']; omega
theorem bat_rng (s : ByteArray) (j : Nat) : 0 ≤ bat s j ∧ bat s j < 256 := by
  unfold bat; have := (s.data.toList.getD j 0).toNat_lt; omega
theorem ofInt_i64 {a : Int} (h0 : 0 ≤ a) (h : a ≤ 9223372036854775807) : (BitVec.ofInt 64 a).toNat = a.toNat := by
  rw [BitVec.toNat_ofInt]
  have : ((2 ^ 64 : Nat) : Int) = 18446744073709551616 := by decide
  rw [this]; omega
theorem nat_or_byte {x b : Nat} (hb : b < 256) : x * 256 ||| b = x * 256 + b := by
  have := Nat.two_pow_add_eq_or_of_lt (i := 8) (b := b) (by simpa using hb) x
  rw [show (2 : Nat) ^ 8 = 256 by decide] at this
  rw [Nat.mul_comm x 256]; exact this.symm
theorem ior_byte_i {x b : Int} (h0 : 0 ≤ x) (h1 : x < 36028797018963968) (hb : 0 ≤ b) (hb2 : b < 256) : ior .i64 (ishl .i64 x 8) b = x * 256 + b := by
  have e : ishl .i64 x 8 = x * 256 := by
    unfold ishl
    have : (2 : Int) ^ (min (8 : Int).toNat IntKind.i64.bits) = 256 := by decide
    rw [this, w64 (by omega) (by omega)]
  have e2 : ∀ a c : Int, ior .i64 a c = IntKind.i64.wrap (BitVec.ofInt 64 a ||| BitVec.ofInt 64 c).toNat := fun _ _ => rfl
  rw [e, e2, BitVec.toNat_or, ofInt_i64 (by omega) (by omega), ofInt_i64 hb (by omega), Int.toNat_mul h0 (by omega)]
  have : (256 : Int).toNat = 256 := rfl
  rw [this, nat_or_byte (by omega), w64 (by omega) (by omega)]; omega
theorem ior_byte_u {x b : Int} (h0 : 0 ≤ x) (h1 : x < 72057594037927936) (hb : 0 ≤ b) (hb2 : b < 256) : ior .u64 (ishl .u64 x 8) b = x * 256 + b := by
  have e : ishl .u64 x 8 = x * 256 := by
    unfold ishl
    have : (2 : Int) ^ (min (8 : Int).toNat IntKind.u64.bits) = 256 := by decide
    rw [this, wrap_u64']; omega
  rw [e, ior_u64 ⟨by omega, by omega⟩ ⟨by omega, by omega⟩, Int.toNat_mul h0 (by omega)]
  have : (256 : Int).toNat = 256 := rfl
  rw [this, nat_or_byte (by omega)]; omega
end Go.Ab
