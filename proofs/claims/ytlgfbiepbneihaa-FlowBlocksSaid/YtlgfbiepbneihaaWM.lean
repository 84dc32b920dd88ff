/- What operators make of words; moved words, bit by bit; the laws. -/
import Derived.Test.YtlgfbiepbneihaaWL
namespace Go.Ab
set_option linter.unusedVariables false
set_option linter.unusedSimpArgs false

def minI (a b : Int) : Int := if a < b then a else b
def rawW (op w A B : Int) : Int :=
  if op = 1 then A + B else if op = 2 then A - B else if op = 3 then A * B
  else if op = 4 then (if B = 0 then p2 w - 1 else A / B) else if op = 5 then (if B = 0 then A else A % B)
  else if op = 6 then iand .u64 A B else if op = 7 then ior .u64 A B else if op = 8 then ixor .u64 A B
  else if op = 9 then A * p2 (minI B w) else if op = 10 then A / p2 (minI B w) else if op = 11 then sgnW w A / p2 (minI B w)
  else if op = 12 then (if A = B then 1 else 0) else if op = 13 then (if A < B then 1 else 0) else (if sgnW w A < sgnW w B then 1 else 0)
def binE (op w : Int) : Int := if op < 1 ∨ 14 < op then 3 else if fitW w then 0 else 2
def binW (op w a b : Int) : Int := if binE op w = 0 then rawW op w (a % p2 w) (b % p2 w) % p2 w else 0
def unE (op w : Int) : Int := if op = 15 ∨ op = 16 then (if fitW w then 0 else 2) else 3
def unW (op w a : Int) : Int := if unE op w = 0 then (if op = 15 then (-1 - a) % p2 w else (-a) % p2 w) else 0

theorem p2_ne (w : Int) : p2 w ≠ 0 := by have := p2_pos w; omega
theorem mod_rng {w : Int} (x : Int) : 0 ≤ x % p2 w ∧ x % p2 w < p2 w := ⟨Int.emod_nonneg x (p2_ne w), Int.emod_lt_of_pos x (p2_pos w)⟩
theorem mod_idem {w : Int} (x : Int) : x % p2 w % p2 w = x % p2 w := Int.emod_emod_of_dvd _ (Int.dvd_refl _)
/-! ### Bits -/
def bitT (T i : Int) : Bool := decide (T / p2 i % 2 = 1)
theorem bit_up {a b i : Int} (hb : 0 ≤ b) (hi : 0 ≤ i) : bitT (a * p2 b) i = if i < b then false else bitT a (i - b) := by
  unfold bitT
  split
  · rename_i h
    have e : p2 b = p2 i * (2 * p2 (b - i - 1)) := by
      rw [← p2_succ (by omega), ← p2_add hi (by omega)]; congr 1; omega
    have : a * p2 b = p2 i * (a * (2 * p2 (b - i - 1))) := by rw [e, Int.mul_left_comm]
    rw [this, Int.mul_ediv_cancel_left _ (p2_ne i)]
    have : a * (2 * p2 (b - i - 1)) = 2 * (a * p2 (b - i - 1)) := by rw [Int.mul_left_comm]
    rw [this]; simp
  · rename_i h
    have e : p2 i = p2 (i - b) * p2 b := by rw [← p2_add (by omega) hb]; congr 1; omega
    rw [e, Int.mul_ediv_mul_of_pos_left _ _ (p2_pos b)]
theorem bit_down {T n i : Int} (hn : 0 ≤ n) (hi : 0 ≤ i) : bitT (T / p2 n) i = bitT T (n + i) := by unfold bitT; rw [div_p2 T hn hi]
theorem bit_zero {a i w : Int} (h0 : 0 ≤ a) (h : a < p2 w) (hi : w ≤ i) : bitT a i = false := by
  unfold bitT; rw [Int.ediv_eq_zero_of_lt h0 (by have := p2_le hi; omega)]; rfl
theorem bit_neg {S i w : Int} (h0 : S < 0) (h : -p2 w ≤ S) (hi : w ≤ i) : bitT S i = true := by
  unfold bitT
  have hp := p2_le hi
  have : S / p2 i = -1 := by
    have e : S = (S + p2 i) + (-1) * p2 i := by omega
    rw [e, Int.add_mul_ediv_right _ _ (p2_ne i), Int.ediv_eq_zero_of_lt (by omega) (by omega)]; rfl
  rw [this]; rfl
theorem bit_sgn {w a i : Int} (h : fitW w) (h0 : 0 ≤ a) (ha : a < p2 w) (hi : 0 ≤ i) (hiw : i < w) : bitT (sgnW w a) i = bitT a i := by
  unfold sgnW; rw [if_pos h, Int.emod_eq_of_lt h0 ha]
  split
  · rfl
  · unfold bitT
    have e : p2 w = p2 i * (2 * p2 (w - i - 1)) := by
      rw [← p2_succ (by omega), ← p2_add hi (by omega)]; congr 1; omega
    have : a - p2 w = a + (-(2 * p2 (w - i - 1))) * p2 i := by
      rw [e, Int.neg_mul, Int.mul_comm (p2 i)]; omega
    rw [this, Int.add_mul_ediv_right _ _ (p2_ne i)]
    generalize a / p2 i = q
    generalize p2 (w - i - 1) = r
    congr 1
    apply propext
    omega
theorem sgn_neg_bit {w a : Int} (h : fitW w) (h0 : 0 ≤ a) (ha : a < p2 w) : bitT a (w - 1) = decide (sgnW w a < 0) := by
  have h3 := p2_half h; have hp := p2_pos (w - 1)
  unfold sgnW bitT; rw [if_pos h, Int.emod_eq_of_lt h0 ha]
  by_cases hc : a < p2 (w - 1)
  · rw [if_pos hc, Int.ediv_eq_zero_of_lt h0 hc]; simp; omega
  · rw [if_neg hc]
    have : a / p2 (w - 1) = 1 := by
      have e : a = (a - p2 (w - 1)) + 1 * p2 (w - 1) := by omega
      rw [e, Int.add_mul_ediv_right _ _ (p2_ne _), Int.ediv_eq_zero_of_lt (by omega) (by omega)]; rfl
    rw [this]; simp; omega
def bitM (w a b : Int) (fill : Bool) (i : Int) : Bool := if w ≤ i - b then fill else if 0 ≤ i - b then bitT a (i - b) else false
theorem bitM_shl {w a b i : Int} (hb : 0 ≤ b) (h0 : 0 ≤ i) (hi : i < w) : bitM w a b false i = bitT (a * p2 b) i := by
  unfold bitM; rw [bit_up hb h0, if_neg (by omega)]
  by_cases h : 0 ≤ i - b
  · rw [if_pos h, if_neg (by omega)]
  · rw [if_neg h, if_pos (by omega)]
theorem bitM_shr {w a n i : Int} (hn : 0 ≤ n) (ha : 0 ≤ a) (hw : a < p2 w) (h0 : 0 ≤ i) : bitM w a (-n) false i = bitT (a / p2 n) i := by
  unfold bitM; rw [bit_down hn h0]
  by_cases h : w ≤ i - -n
  · rw [if_pos h, bit_zero ha hw (by omega)]
  · rw [if_neg h, if_pos (by omega)]; congr 1; omega
theorem bitM_sar {w a n i : Int} (h : fitW w) (hn : 0 ≤ n) (ha : 0 ≤ a) (hw : a < p2 w) (h0 : 0 ≤ i) : bitM w a (-n) (bitT a (w - 1)) i = bitT (sgnW w a / p2 n) i := by
  have hr := sgnW_rng (x := a) h; have h3 := p2_half h; have hp := p2_pos (w - 1)
  unfold bitM; rw [bit_down hn h0]
  by_cases hc : w ≤ i - -n
  · rw [if_pos hc, sgn_neg_bit h ha hw]
    by_cases hs : sgnW w a < 0
    · rw [bit_neg hs (by omega) (show w ≤ n + i by omega)]; simp [hs]
    · rw [bit_zero (by omega) (show sgnW w a < p2 w by omega) (show w ≤ n + i by omega)]; simp [hs]
  · rw [if_neg hc, if_pos (by omega), bit_sgn h ha hw (by omega) (by omega)]; congr 1; omega
/-! ### Moved no further than the width -/
theorem mul_p2_big {w A b : Int} (h : fitW w) (hb : w ≤ b) : A * p2 b % p2 w = 0 := by
  have : p2 b = p2 w * p2 (b - w) := by rw [← p2_add (by unfold fitW at h; omega) (by omega)]; congr 1; omega
  rw [this, Int.mul_left_comm]; exact Int.mul_emod_right _ _
theorem shl_min {w A B b : Int} (h : fitW w) (hB : 0 ≤ B) (hb : b = if B < 64 then B else 64) : A * p2 b % p2 w = A * p2 (minI B w) % p2 w := by
  unfold minI; have := h; unfold fitW at this
  split
  · rename_i hlt; rw [hb, if_pos (by omega)]
  · rw [mul_p2_big h (Int.le_refl w), mul_p2_big h (by split at hb <;> omega)]
theorem div_small {S w b : Int} (h1 : -p2 w ≤ S) (h2 : S < p2 w) (hb : w ≤ b) : S / p2 b = if S < 0 then -1 else 0 := by
  have hp := p2_le hb
  split
  · have e : S = (S + p2 b) + (-1) * p2 b := by omega
    rw [e, Int.add_mul_ediv_right _ _ (p2_ne b), Int.ediv_eq_zero_of_lt (by omega) (by omega)]; rfl
  · exact Int.ediv_eq_zero_of_lt (by omega) (by omega)
theorem shr_min {w S B b : Int} (h : fitW w) (h1 : -p2 w ≤ S) (h2 : S < p2 w) (hB : 0 ≤ B) (hb : b = if B < 64 then B else 64) : S / p2 b = S / p2 (minI B w) := by
  unfold minI; have := h; unfold fitW at this
  split
  · rename_i hlt; rw [hb, if_pos (by omega)]
  · rw [div_small h1 h2 (Int.le_refl w), div_small h1 h2 (by split at hb <;> omega)]

/-! ### The laws -/
theorem binW_ok {op w a b : Int} (h : fitW w) (h1 : 1 ≤ op) (h2 : op ≤ 14) : binW op w a b = rawW op w (a % p2 w) (b % p2 w) % p2 w := by
  unfold binW; rw [if_pos (by unfold binE; rw [if_neg (by omega), if_pos h])]
end Go.Ab
