/- What operators make of words; moved words, bit by bit; the laws. -/
import Derived.Test.YtlgfbiepbneihaaWL
namespace Go.Ab
set_option linter.unusedVariables false
set_option linter.unusedSimpArgs false

def minI (a b : Int) : Int := if a < b then a else b
def rawW (op w A B : Int) : Int :=
  if op = 1 then A + B else if op = 2 then A - B else if op = 3 then A * B
  else if op = 4 then (if B = 0 then p2 w - 1 else A / B) else if op = 5 then (if B = 0 then A else A % B)
  else if op = 6 then iand .u64 A B else if op = 7 then ior .u64 A B else if op = 8 then ixor .u64 A B
  else if op = 9 then A * p2 (minI B w) else if op = 10 then A / p2 (minI B w) else if op = 11 then sgnW w A / p2 (minI B w)
  else if op = 12 then (if A = B then 1 else 0) else if op = 13 then (if A < B then 1 else 0) else (if sgnW w A < sgnW w B then 1 else 0)
def binE (op w : Int) : Int := if op < 1 ∨ 14 < op then 3 else if fitW w then 0 else 2
def binW (op w a b : Int) : Int := if binE op w = 0 then rawW op w (a % p2 w) (b % p2 w) % p2 w else 0
def unE (op w : Int) : Int := if op = 15 ∨ op = 16 then (if fitW w then 0 else 2) else 3
def unW (op w a : Int) : Int := if unE op w = 0 then (if op = 15 then (-1 - a) % p2 w else (-a) % p2 w) else 0

theorem p2_ne (w : Int) : p2 w ≠ 0 := by have := p2_pos w; omega
theorem mod_rng {w : Int} (x : Int) : 0 ≤ x % p2 w ∧ x % p2 w < p2 w := ⟨Int.emod_nonneg x (p2_ne w), Int.emod_lt_of_pos x (p2_pos w)⟩
theorem mod_idem {w : Int} (x : Int) : x % p2 w % p2 w = x % p2 w := Int.emod_emod_of_dvd _ (Int.dvd_refl _)
theorem binW_W {op w a b : Int} : W64 (binW op w a b) := by
  unfold binW; split
  · rename_i h
    have hf : fitW w := by
      unfold binE at h
      by_cases h1 : op < 1 ∨ 14 < op
      · rw [if_pos h1] at h; omega
      · rw [if_neg h1] at h
        by_cases h2 : fitW w
        · exact h2
        · rw [if_neg h2] at h; omega
    exact mod_W hf _
  · constructor <;> omega

/-! ### Bits -/
def bitT (T i : Int) : Bool := decide (T / p2 i % 2 = 1)
theorem bit_up {a b i : Int} (hb : 0 ≤ b) (hi : 0 ≤ i) : bitT (a * p2 b) i = if i < b then false else bitT a (i - b) := by
  unfold bitT
  split
  · rename_i h
    have e : p2 b = p2 i * (2 * p2 (b - i - 1)) := by
      rw [← p2_succ (by omega), ← p2_add hi (by omega)]; congr 1; omega
    have : a * p2 b = p2 i * (a * (2 * p2 (b - i - 1))) := by rw [e, Int.mul_left_comm]
    rw [this, Int.mul_ediv_cancel_left _ (p2_ne i)]
    have : a * (2 * p2 (b - i - 1)) = 2 * (a * p2 (b - i - 1)) := by rw [Int.mul_left_comm]
    rw [this]; simp
  · rename_i h
    have e : p2 i = p2 (i - b) * p2 b := by rw [← p2_add (by omega) hb]; congr 1; omega
    rw [e, Int.mul_ediv_mul_of_pos_left _ _ (p2_pos b)]
theorem bit_down {T n i : Int} (hn : 0 ≤ n) (hi : 0 ≤ i) : bitT (T / p2 n) i = bitT T (n + i) := by unfold bitT; rw [div_p2 T hn hi]
theorem bit_zero {a i w : Int} (h0 : 0 ≤ a) (h : a < p2 w) (hi : w ≤ i) : bitT a i = false := by
  unfold bitT; rw [Int.ediv_eq_zero_of_lt h0 (by have := p2_le hi; omega)]; rfl
theorem bit_neg {S i w : Int} (h0 : S < 0) (h : -p2 w ≤ S) (hi : w ≤ i) : bitT S i = true := by
  unfold bitT
  have hp := p2_le hi
  have : S / p2 i = -1 := by
    have e : S = (S + p2 i) + (-1) * p2 i := by omega
    rw [e, Int.add_mul_ediv_right _ _ (p2_ne i), Int.ediv_eq_zero_of_lt (by omega) (by omega)]; rfl
  rw [this]; rfl
theorem bit_sgn {w a i : Int} (h : fitW w) (h0 : 0 ≤ a) (ha : a < p2 w) (hi : 0 ≤ i) (hiw : i < w) : bitT (sgnW w a) i = bitT a i := by
  unfold sgnW; rw [if_pos h, Int.emod_eq_of_lt h0 ha]
  split
  · rfl
  · unfold bitT
    have e : p2 w = p2 i * (2 * p2 (w - i - 1)) := by
      rw [← p2_succ (by omega), ← p2_add hi (by omega)]; congr 1; omega
    have : a - p2 w = a + (-(2 * p2 (w - i - 1))) * p2 i := by
      rw [e, Int.neg_mul, Int.mul_comm (p2 i)]; omega
    rw [this, Int.add_mul_ediv_right _ _ (p2_ne i)]
    generalize a / p2 i = q
    generalize p2 (w - i - 1) = r
    congr 1
    apply propext
    omega
theorem sgn_neg_bit {w a : Int} (h : fitW w) (h0 : 0 ≤ a) (ha : a < p2 w) : bitT a (w - 1) = decide (sgnW w a < 0) := by
  have h3 := p2_half h; have hp := p2_pos (w - 1)
  unfold sgnW bitT; rw [if_pos h, Int.emod_eq_of_lt h0 ha]
  by_cases hc : a < p2 (w - 1)
  · rw [if_pos hc, Int.ediv_eq_zero_of_lt h0 hc]; simp; omega
  · rw [if_neg hc]
    have : a / p2 (w - 1) = 1 := by
      have e : a = (a - p2 (w - 1)) + 1 * p2 (w - 1) := by omega
      rw [e, Int.add_mul_ediv_right _ _ (p2_ne _), Int.ediv_eq_zero_of_lt (by omega) (by omega)]; rfl
    rw [this]; simp; omega
def bitM (w a b : Int) (fill : Bool) (i : Int) : Bool := if w ≤ i - b then fill else if 0 ≤ i - b then bitT a (i - b) else false
theorem bitM_shl {w a b i : Int} (hb : 0 ≤ b) (h0 : 0 ≤ i) (hi : i < w) : bitM w a b false i = bitT (a * p2 b) i := by
  unfold bitM; rw [bit_up hb h0, if_neg (by omega)]
  by_cases h : 0 ≤ i - b
  · rw [if_pos h, if_neg (by omega)]
  · rw [if_neg h, if_pos (by omega)]
theorem bitM_shr {w a n i : Int} (hn : 0 ≤ n) (ha : 0 ≤ a) (hw : a < p2 w) (h0 : 0 ≤ i) : bitM w a (-n) false i = bitT (a / p2 n) i := by
  unfold bitM; rw [bit_down hn h0]
  by_cases h : w ≤ i - -n
  · rw [if_pos h, bit_zero ha hw (by omega)]
  · rw [if_neg h, if_pos (by omega)]; congr 1; omega
theorem bitM_sar {w a n i : Int} (h : fitW w) (hn : 0 ≤ n) (ha : 0 ≤ a) (hw : a < p2 w) (h0 : 0 ≤ i) : bitM w a (-n) (bitT a (w - 1)) i = bitT (sgnW w a / p2 n) i := by
  have hr := sgnW_rng (x := a) h; have h3 := p2_half h; have hp := p2_pos (w - 1)
  unfold bitM; rw [bit_down hn h0]
  by_cases hc : w ≤ i - -n
  · rw [if_pos hc, sgn_neg_bit h ha hw]
    by_cases hs : sgnW w a < 0
    · rw [bit_neg hs (by omega) (show w ≤ n + i by omega)]; simp [hs]
    · rw [bit_zero (by omega) (show sgnW w a < p2 w by omega) (show w ≤ n + i by omega)]; simp [hs]
  · rw [if_neg hc, if_pos (by omega), bit_sgn h ha hw (by omega) (by omega)]; congr 1; omega
theorem bit_next {T x i : Int} (h0 : 0 ≤ i) (hx : x = T % p2 i) (h64 : i < 64) : ior .u64 x ((if bitT T i = true then 1 else 0) * p2 i) = T % p2 (i + 1) := by
  subst hx
  have := mod_rng (w := i) T
  rw [ior_bit this.1 h0 h64 this.2 (by split <;> simp), bits_succ T h0]
  unfold bitT
  by_cases h : T / p2 i % 2 = 1
  · simp [h]
  · have : T / p2 i % 2 = 0 := by omega
    simp [this]

/-! ### Moved no further than the width -/
theorem mul_p2_big {w A b : Int} (h : fitW w) (hb : w ≤ b) : A * p2 b % p2 w = 0 := by
  have : p2 b = p2 w * p2 (b - w) := by rw [← p2_add (by unfold fitW at h; omega) (by omega)]; congr 1; omega
  rw [this, Int.mul_left_comm]; exact Int.mul_emod_right _ _
theorem shl_min {w A B b : Int} (h : fitW w) (hB : 0 ≤ B) (hb : b = if B < 64 then B else 64) : A * p2 b % p2 w = A * p2 (minI B w) % p2 w := by
  unfold minI; have := h; unfold fitW at this
  split
  · rename_i hlt; rw [hb, if_pos (by omega)]
  · rw [mul_p2_big h (Int.le_refl w), mul_p2_big h (by split at hb <;> omega)]
theorem div_small {S w b : Int} (h1 : -p2 w ≤ S) (h2 : S < p2 w) (hb : w ≤ b) : S / p2 b = if S < 0 then -1 else 0 := by
  have hp := p2_le hb
  split
  · have e : S = (S + p2 b) + (-1) * p2 b := by omega
    rw [e, Int.add_mul_ediv_right _ _ (p2_ne b), Int.ediv_eq_zero_of_lt (by omega) (by omega)]; rfl
  · exact Int.ediv_eq_zero_of_lt (by omega) (by omega)
theorem shr_min {w S B b : Int} (h : fitW w) (h1 : -p2 w ≤ S) (h2 : S < p2 w) (hB : 0 ≤ B) (hb : b = if B < 64 then B else 64) : S / p2 b = S / p2 (minI B w) := by
  unfold minI; have := h; unfold fitW at this
  split
  · rename_i hlt; rw [hb, if_pos (by omega)]
  · rw [div_small h1 h2 (Int.le_refl w), div_small h1 h2 (by split at hb <;> omega)]

/-! ### The laws -/
theorem binW_ok {op w a b : Int} (h : fitW w) (h1 : 1 ≤ op) (h2 : op ≤ 14) : binW op w a b = rawW op w (a % p2 w) (b % p2 w) % p2 w := by
  unfold binW; rw [if_pos (by unfold binE; rw [if_neg (by omega), if_pos h])]
theorem unW_neg {w a : Int} (h : fitW w) : unW 16 w a = (-a) % p2 w := by
  unfold unW; rw [if_pos (by unfold unE; rw [if_pos (by omega), if_pos h]), if_neg (by omega)]
theorem emod_mulL (a b n : Int) : a % n * b % n = a * b % n := by rw [Int.mul_emod, Int.emod_emod_of_dvd _ (Int.dvd_refl n), ← Int.mul_emod]
theorem emod_mulR (a b n : Int) : a * (b % n) % n = a * b % n := by rw [Int.mul_comm, emod_mulL, Int.mul_comm]
theorem add_ok {w a b : Int} (h : fitW w) : binW 1 w a b = (a + b) % p2 w := by rw [binW_ok h (by omega) (by omega)]; simp [rawW]
theorem sub_ok {w a b : Int} (h : fitW w) : binW 2 w a b = (a - b) % p2 w := by rw [binW_ok h (by omega) (by omega)]; simp [rawW]
theorem mul_ok {w a b : Int} (h : fitW w) : binW 3 w a b = (a * b) % p2 w := by rw [binW_ok h (by omega) (by omega)]; simp only [rawW]; simp [Int.mul_emod]
theorem ring_comm {w a b : Int} (h : fitW w) : binW 1 w a b = binW 1 w b a := by rw [add_ok h, add_ok h, Int.add_comm]
theorem ring_back {w a b : Int} (h : fitW w) : binW 2 w (binW 1 w a b) b = cutW w a := by
  rw [sub_ok h, add_ok h, Int.emod_sub_emod]; unfold cutW; rw [if_pos h]; congr 1; omega
theorem ring_dist {w a b c : Int} (h : fitW w) : binW 3 w (binW 1 w a b) c = binW 1 w (binW 3 w a c) (binW 3 w c b) := by
  rw [mul_ok h, add_ok h, add_ok h, mul_ok h, mul_ok h, emod_mulL, Int.emod_add_emod, Int.add_emod_emod, Int.add_mul, Int.mul_comm c b]
theorem ring_neg {w a : Int} (h : fitW w) : unW 16 w a = binW 2 w 0 a := by rw [unW_neg h, sub_ok h]; congr 1; omega
theorem div_law {w a b : Int} (h : fitW w) : binW 1 w (binW 3 w (binW 4 w a b) b) (binW 5 w a b) = cutW w a ∧ (cutW w b = 0 ∨ binW 13 w (binW 5 w a b) b = 1) := by
  have hA := mod_rng (w := w) a; have hB := mod_rng (w := w) b
  have e4 : binW 4 w a b = (if b % p2 w = 0 then p2 w - 1 else (a % p2 w) / (b % p2 w)) % p2 w := by rw [binW_ok h (by omega) (by omega)]; simp [rawW]
  have e5 : binW 5 w a b = (if b % p2 w = 0 then a % p2 w else (a % p2 w) % (b % p2 w)) % p2 w := by rw [binW_ok h (by omega) (by omega)]; simp [rawW]
  have ec : cutW w a = a % p2 w := by unfold cutW; rw [if_pos h]
  have eb : cutW w b = b % p2 w := by unfold cutW; rw [if_pos h]
  refine ⟨?_, ?_⟩
  · have key : ∀ X R : Int, (X % p2 w * b % p2 w + R % p2 w) % p2 w = (X * (b % p2 w) + R) % p2 w := fun X R => by
      rw [emod_mulL, Int.emod_add_emod, Int.add_emod_emod, ← Int.emod_add_emod (X * (b % p2 w)), emod_mulR, Int.emod_add_emod]
    rw [add_ok h, mul_ok h, e4, e5, ec, key]
    by_cases hz : b % p2 w = 0
    · rw [if_pos hz, if_pos hz, hz]; simp
    · rw [if_neg hz, if_neg hz, Int.mul_comm, Int.mul_ediv_add_emod]; exact mod_idem a
  · rw [eb]
    by_cases hz : b % p2 w = 0
    · exact .inl hz
    · right
      have hr := Int.emod_nonneg (a % p2 w) hz; have hr2 := Int.emod_lt_of_pos (a % p2 w) (show 0 < b % p2 w by omega)
      have hlt : a % p2 w % (b % p2 w) % p2 w = a % p2 w % (b % p2 w) := Int.emod_eq_of_lt hr (by omega)
      rw [binW_ok h (by omega) (by omega), e5, if_neg hz]
      simp only [rawW]
      rw [hlt, hlt]
      simp only [show ¬ (13 : Int) = 1 by decide, show ¬ (13 : Int) = 2 by decide, show ¬ (13 : Int) = 3 by decide, show ¬ (13 : Int) = 4 by decide, show ¬ (13 : Int) = 5 by decide, show ¬ (13 : Int) = 6 by decide, show ¬ (13 : Int) = 7 by decide, show ¬ (13 : Int) = 8 by decide, show ¬ (13 : Int) = 9 by decide, show ¬ (13 : Int) = 10 by decide, show ¬ (13 : Int) = 11 by decide, show ¬ (13 : Int) = 12 by decide, if_false, if_true, if_pos hr2]
      have h3 := p2_half h; have := p2_pos (w - 1)
      exact Int.emod_eq_of_lt (by omega) (by omega)
theorem move_law {w a b : Int} (h : fitW w) : binW 10 w (binW 9 w a b) b = (if cutW w b < w then cutW (w - cutW w b) a else 0) ∧ binW 10 w a 0 = cutW w a ∧ (sgnW w (binW 11 w a b) < 0 ↔ sgnW w a < 0) := by
  have hA := mod_rng (w := w) a; have hB := mod_rng (w := w) b; have fw := h; unfold fitW at fw
  have ec : ∀ x, cutW w x = x % p2 w := fun x => by unfold cutW; rw [if_pos h]
  have e9 : binW 9 w a b = a % p2 w * p2 (minI (b % p2 w) w) % p2 w := by rw [binW_ok h (by omega) (by omega)]; simp [rawW]
  have e10 : ∀ x y, binW 10 w x y = (x % p2 w) / p2 (minI (y % p2 w) w) % p2 w := fun x y => by rw [binW_ok h (by omega) (by omega)]; simp [rawW]
  have e11 : binW 11 w a b = sgnW w (a % p2 w) / p2 (minI (b % p2 w) w) % p2 w := by rw [binW_ok h (by omega) (by omega)]; simp [rawW]
  have dv : ∀ X n : Int, 0 ≤ X → X < p2 w → 0 ≤ X / p2 n ∧ X / p2 n < p2 w := fun X n h0 h1 =>
    ⟨Int.ediv_nonneg h0 (Int.le_of_lt (p2_pos n)), Int.lt_of_le_of_lt (Int.ediv_le_self _ h0) h1⟩
  refine ⟨?_, ?_, ?_⟩
  · rw [e10, e9, ec, mod_idem]
    have hm := mod_rng (w := w) (a % p2 w * p2 (minI (b % p2 w) w))
    have := dv _ (minI (b % p2 w) w) hm.1 hm.2
    rw [Int.emod_eq_of_lt this.1 this.2]
    unfold minI
    by_cases hlt : b % p2 w < w
    · rw [if_pos hlt, if_pos hlt]
      generalize b % p2 w = n at *
      have e : p2 w = p2 (w - n) * p2 n := by rw [← p2_add (by omega) (by omega)]; congr 1; omega
      have : a % p2 w * p2 n % p2 w = (a % p2 w % p2 (w - n)) * p2 n := by
        conv => lhs; rw [e]
        rw [← e, Int.mul_comm _ (p2 n)]
        conv => lhs; rhs; rw [e, Int.mul_comm]
        rw [Int.mul_emod_mul_of_pos _ _ (p2_pos n), Int.mul_comm]
      rw [this, Int.mul_ediv_cancel _ (p2_ne n)]
      unfold cutW
      rw [if_pos (by unfold fitW; omega)]
      exact Int.emod_emod_of_dvd _ ⟨p2 n, e⟩
    · rw [if_neg hlt, if_neg hlt, mul_p2_big h (Int.le_refl w)]; simp
  · rw [e10, ec]
    have : minI (0 % p2 w) w = 0 := by simp [minI]; omega
    have e0 : p2 0 = 1 := by decide
    rw [this, e0, Int.ediv_one, mod_idem]
  · have hs : sgnW w (a % p2 w) = sgnW w a := by unfold sgnW; rw [if_pos h, if_pos h, mod_idem]
    have hr := sgnW_rng (x := a) h
    rw [e11, hs]
    generalize minI (b % p2 w) w = n
    have hp := p2_pos n
    have q1 : (0 ≤ sgnW w a → 0 ≤ sgnW w a / p2 n ∧ sgnW w a / p2 n ≤ sgnW w a) := fun h0 => ⟨Int.ediv_nonneg h0 (Int.le_of_lt hp), Int.ediv_le_self _ h0⟩
    have q2 : (sgnW w a < 0 → sgnW w a / p2 n < 0 ∧ sgnW w a ≤ sgnW w a / p2 n) := fun h0 => ⟨Int.ediv_neg_of_neg_of_pos h0 hp, by
      have h5 : sgnW w a * p2 n ≤ sgnW w a * 1 := Int.mul_le_mul_of_nonpos_left (by omega) (by omega)
      exact (Int.le_ediv_iff_mul_le hp).2 (by omega)⟩
    by_cases h0 : 0 ≤ sgnW w a
    · have := q1 h0
      rw [sgnW_of h (by omega) (by omega) (mod_idem _)]; omega
    · have := q2 (by omega)
      rw [sgnW_of h (by omega) (by omega) (mod_idem _)]; omega
end Go.Ab
