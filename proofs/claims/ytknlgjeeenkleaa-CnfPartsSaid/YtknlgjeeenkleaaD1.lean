/- Plain facts on machine numbers. -/
import Derived.Test.YtknlgjeeenkleaaC6
import Derived.Laws.BitsLemmas
namespace Go.Ab
set_option linter.unusedVariables false
set_option linter.unusedSimpArgs false

def I64 (n : Int) : Prop := -9223372036854775808 ≤ n ∧ n ≤ 9223372036854775807
def U64 (n : Int) : Prop := 0 ≤ n ∧ n ≤ 18446744073709551615
theorem wrap64 {n : Int} (h : I64 n) : IntKind.i64.wrap n = n := by
  rw [IntKind.wrap_i64]; unfold I64 at h; omega
theorem w64 {n : Int} (h1 : -9223372036854775808 ≤ n) (h2 : n ≤ 9223372036854775807) : IntKind.i64.wrap n = n := wrap64 ⟨h1, h2⟩
theorem wU {n : Int} (h1 : 0 ≤ n) (h2 : n ≤ 18446744073709551615) : IntKind.u64.wrap n = n := by
  simp only [IntKind.wrap, IntKind.bits, IntKind.signed, Bool.false_and, Bool.false_eq_true, if_false]; omega
theorem wrapU {n : Int} (h : U64 n) : IntKind.u64.wrap n = n := by
  unfold U64 at h
  simp only [IntKind.wrap, IntKind.bits, IntKind.signed, Bool.false_and, Bool.false_eq_true, if_false]; omega
theorem wrap_u64' (n : Int) : IntKind.u64.wrap n = n % 18446744073709551616 := by simp [IntKind.wrap, IntKind.bits, IntKind.signed]
theorem wrap_i64' (n : Int) : IntKind.i64.wrap n = (n + 9223372036854775808) % 18446744073709551616 - 9223372036854775808 := IntKind.wrap_i64 n
theorem i64_of_wf {n : Int} (h : (Lit.int .i64 n).wf = true) : I64 n := by
  simp [Lit.wf, IntKind.min, IntKind.max, IntKind.bits, IntKind.signed] at h; unfold I64; omega
theorem u64_of_wf {n : Int} (h : (Lit.int .u64 n).wf = true) : U64 n := by
  simp [Lit.wf, IntKind.min, IntKind.max, IntKind.bits, IntKind.signed] at h; unfold U64; omega
theorem ishr_eq (k : IntKind) (a : Int) (b : Nat) (hb : b ≤ k.bits) : ishr k a b = a / 2 ^ b := by
  simp only [ishr, Int.toNat_natCast, Nat.min_eq_left hb]
  rw [Int.fdiv_eq_ediv_of_nonneg]
  exact Int.pow_nonneg (by omega)
theorem ishr_1 (a : Int) : ishr .i64 a 1 = a / 2 := by have := ishr_eq .i64 a 1 (by simp [IntKind.bits]); simpa using this
theorem ishl_1 (a : Int) : ishl .i64 a 1 = IntKind.i64.wrap (a * 2) := by simp [ishl, IntKind.bits]
theorem nat_mod2 (a : Int) : ((a % 18446744073709551616).toNat % 2 : Nat) = (a % 2).toNat := by omega
theorem iand_1 (a : Int) : iand .i64 a 1 = a % 2 := by
  have h1 : (BitVec.ofInt 64 a &&& BitVec.ofInt 64 1).toNat = (a % 2).toNat := by
    rw [BitVec.toNat_and, BitVec.toNat_ofInt, BitVec.toNat_ofInt]
    have : ((1 : Int) % ((2 ^ 64 : Nat) : Int)).toNat = 1 := by decide
    rw [this, Nat.and_one_is_mod]
    have := nat_mod2 a
    simpa using this
  have e : iand .i64 a 1 = IntKind.i64.wrap (BitVec.ofInt 64 a &&& BitVec.ofInt 64 1).toNat := rfl
  rw [e, h1]
  have := wrap64 (n := ((a % 2).toNat : Int)) (by unfold I64; omega)
  rw [this]; omega
theorem nat_xor1 (n : Nat) : n ^^^ 1 = if n % 2 = 0 then n + 1 else n - 1 := by
  have h := Nat.xor_div_two (a := n) (b := 1)
  have h2 := Nat.xor_mod_two_eq_one (a := n) (b := 1)
  simp at h
  split <;> omega
theorem ixor_1 {a : Int} (ha : 0 ≤ a) (hb : a ≤ 9223372036854775807) : ixor .i64 a 1 = if a % 2 = 0 then a + 1 else a - 1 := by
  have h1 : (BitVec.ofInt 64 a ^^^ BitVec.ofInt 64 1).toNat = a.toNat ^^^ 1 := by
    rw [BitVec.toNat_xor, BitVec.toNat_ofInt, BitVec.toNat_ofInt]
    have : ((1 : Int) % ((2 ^ 64 : Nat) : Int)).toNat = 1 := by decide
    rw [this]
    congr 1
    have : ((2 ^ 64 : Nat) : Int) = 18446744073709551616 := by decide
    rw [this]; omega
  have e : ixor .i64 a 1 = IntKind.i64.wrap (BitVec.ofInt 64 a ^^^ BitVec.ofInt 64 1).toNat := rfl
  rw [e, h1, nat_xor1]
  have := wrap64 (n := ((if a.toNat % 2 = 0 then a.toNat + 1 else a.toNat - 1 : Nat) : Int)) (by unfold I64; split <;> omega)
  rw [this]; split <;> split <;> omega
end Go.Ab
