/- Words: what the reference's ways come to. -/
import Derived.Test.YtlgfbiepbneihaaWM
import Derived.Test.YtlgfbiepbneihaaKD
namespace Go.Ab
set_option linter.unusedVariables false
set_option linter.unusedSimpArgs false
@[go_sem] theorem u64_all : (if IntKind.u64.signed = true then (-1 : Int) else IntKind.u64.max) = 18446744073709551615 := by decide
theorem sgn_idem {w x : Int} : sgnW w (x % p2 w) = sgnW w x := by unfold sgnW; rw [mod_idem]
theorem cut_eq {w x : Int} (h : fitW w) : cutW w x = x % p2 w := by unfold cutW; rw [if_pos h]
theorem sgn_set {w x : Int} (h : fitW w) (hb : bitT (cutW w x) (w - 1) = true) : IntKind.i64.wrap (ior .u64 (cutW w x) (ixor .u64 18446744073709551615 (maskW w))) = sgnW w x := by
  have hm := mod_rng (w := w) x; have hq := p2_64le h.2; have hh := p2_half h; have hp := p2_pos (w - 1)
  rw [cut_eq h] at hb ⊢
  rw [icom_u64 maskW_W]
  have e : maskW w = p2 w - 1 := by unfold maskW; rw [if_pos h]
  rw [e, ior_high h hm.1 hm.2]
  have hs : sgnW w x < 0 := by rw [← sgn_idem]; rw [sgn_neg_bit h hm.1 hm.2] at hb; simpa using hb
  have hv : sgnW w x = if x % p2 w < p2 (w - 1) then x % p2 w else x % p2 w - p2 w := by unfold sgnW; rw [if_pos h]
  rw [hv] at hs ⊢
  rw [wrap_i64']
  split at hs <;> split <;> omega
theorem sgn_clear {w x : Int} (h : fitW w) (hb : ¬ bitT (cutW w x) (w - 1) = true) : IntKind.i64.wrap (cutW w x) = sgnW w x := by
  have hm := mod_rng (w := w) x; have hq := p2_64le h.2; have hh := p2_half h; have hp := p2_pos (w - 1)
  rw [cut_eq h] at hb ⊢
  have hs : ¬ sgnW w x < 0 := by rw [← sgn_idem]; rw [sgn_neg_bit h hm.1 hm.2] at hb; simpa using hb
  have hv : sgnW w x = if x % p2 w < p2 (w - 1) then x % p2 w else x % p2 w - p2 w := by unfold sgnW; rw [if_pos h]
  rw [hv] at hs ⊢
  rw [wrap_i64']
  split at hs <;> split <;> omega
/-- Cut behind a wrap. -/
theorem cut_wrap {w : Int} (h : fitW w) (x : Int) : cutW w (IntKind.u64.wrap x) = x % p2 w := by rw [cut_eq h, wrap_u64', mod_mod h]
theorem cut_cut {w : Int} (h : fitW w) (x : Int) : cutW w (x % p2 w) = x % p2 w := by rw [cut_eq h, mod_idem]
theorem bin_leaf {op w a b X : Int} (h : fitW w) (h1 : 1 ≤ op) (h2 : op ≤ 14) (hX : cutW w X = rawW op w (a % p2 w) (b % p2 w) % p2 w) : PV.tup [.int .u64 (cutW w X), .int .i64 0] = .tup [.int .u64 (binW op w a b), .int .i64 (binE op w)] := by
  rw [hX, binW_ok h h1 h2]
  have : binE op w = 0 := by unfold binE; rw [if_neg (by omega), if_pos h]
  rw [this]
def shT (op w a b : Int) : Int := if op = 9 then a * p2 (if b < 64 then b else 64) else if op = 10 then a / p2 (if b < 64 then b else 64) else sgnW w a / p2 (if b < 64 then b else 64)
theorem sh_leaf {op w A B : Int} (h : fitW w) (hop : op = 9 ∨ op = 10 ∨ op = 11) (h0 : 0 ≤ A) (hA : A < p2 w) (hB : 0 ≤ B) : cutW w (shT op w A B % p2 w) = rawW op w A B % p2 w := by
  have hs := sgnW_rng (x := A) h; have hh := p2_half h; have hp := p2_pos (w - 1)
  rw [cut_cut h]
  unfold shT rawW
  rcases hop with rfl | rfl | rfl
  · simp only [if_true, show ¬ (9 : Int) = 1 by decide, show ¬ (9 : Int) = 2 by decide, show ¬ (9 : Int) = 3 by decide, show ¬ (9 : Int) = 4 by decide, show ¬ (9 : Int) = 5 by decide, show ¬ (9 : Int) = 6 by decide, show ¬ (9 : Int) = 7 by decide, show ¬ (9 : Int) = 8 by decide, if_false]
    exact shl_min h hB rfl
  · simp only [if_true, show ¬ (10 : Int) = 1 by decide, show ¬ (10 : Int) = 2 by decide, show ¬ (10 : Int) = 3 by decide, show ¬ (10 : Int) = 4 by decide, show ¬ (10 : Int) = 5 by decide, show ¬ (10 : Int) = 6 by decide, show ¬ (10 : Int) = 7 by decide, show ¬ (10 : Int) = 8 by decide, show ¬ (10 : Int) = 9 by decide, if_false]
    rw [shr_min h (by omega) hA hB rfl]
  · simp only [if_true, show ¬ (11 : Int) = 1 by decide, show ¬ (11 : Int) = 2 by decide, show ¬ (11 : Int) = 3 by decide, show ¬ (11 : Int) = 4 by decide, show ¬ (11 : Int) = 5 by decide, show ¬ (11 : Int) = 6 by decide, show ¬ (11 : Int) = 7 by decide, show ¬ (11 : Int) = 8 by decide, show ¬ (11 : Int) = 9 by decide, show ¬ (11 : Int) = 10 by decide, if_false]
    rw [shr_min h (by omega) (by omega) hB rfl]
theorem raw1 (w A B : Int) : rawW 1 w A B = A + B := rfl
theorem raw2 (w A B : Int) : rawW 2 w A B = A - B := rfl
theorem raw3 (w A B : Int) : rawW 3 w A B = A * B := rfl
theorem raw4 (w A B : Int) : rawW 4 w A B = (if B = 0 then p2 w - 1 else A / B) := rfl
theorem raw5 (w A B : Int) : rawW 5 w A B = (if B = 0 then A else A % B) := rfl
theorem raw6 (w A B : Int) : rawW 6 w A B = iand .u64 A B := rfl
theorem raw7 (w A B : Int) : rawW 7 w A B = ior .u64 A B := rfl
theorem raw8 (w A B : Int) : rawW 8 w A B = ixor .u64 A B := rfl
theorem raw12 (w A B : Int) : rawW 12 w A B = (if A = B then 1 else 0) := rfl
theorem raw13 (w A B : Int) : rawW 13 w A B = (if A < B then 1 else 0) := rfl
theorem raw14 (w A B : Int) : rawW 14 w A B = (if sgnW w A < sgnW w B then 1 else 0) := rfl
theorem bin_bad {op w a b : Int} (h : op < 1 ∨ 14 < op) : PV.tup [.int .u64 0, .int .i64 3] = .tup [.int .u64 (binW op w a b), .int .i64 (binE op w)] := by
  have : binE op w = 3 := by unfold binE; rw [if_pos h]
  unfold binW; rw [this]; rfl
theorem bin_unfit {op w a b : Int} (h : ¬ (op < 1 ∨ 14 < op)) (hf : ¬ fitW w) : PV.tup [.int .u64 0, .int .i64 2] = .tup [.int .u64 (binW op w a b), .int .i64 (binE op w)] := by
  have : binE op w = 2 := by unfold binE; rw [if_neg h, if_neg hf]
  unfold binW; rw [this]; rfl
theorem un_leaf {op w a X : Int} (h : fitW w) (hop : op = 15 ∨ op = 16) (hX : cutW w X = if op = 15 then (-1 - a) % p2 w else (-a) % p2 w) : PV.tup [.int .u64 (cutW w X), .int .i64 0] = .tup [.int .u64 (unW op w a), .int .i64 (unE op w)] := by
  have : unE op w = 0 := by unfold unE; rw [if_pos hop, if_pos h]
  unfold unW; rw [this, hX]; rfl
theorem un_bad {op w a : Int} (h : ¬ (op = 15 ∨ op = 16)) : PV.tup [.int .u64 0, .int .i64 3] = .tup [.int .u64 (unW op w a), .int .i64 (unE op w)] := by
  have : unE op w = 3 := by unfold unE; rw [if_neg h]
  unfold unW; rw [this]; rfl
theorem un_unfit {op w a : Int} (h : op = 15 ∨ op = 16) (hf : ¬ fitW w) : PV.tup [.int .u64 0, .int .i64 2] = .tup [.int .u64 (unW op w a), .int .i64 (unE op w)] := by
  have : unE op w = 2 := by unfold unE; rw [if_pos h, if_neg hf]
  unfold unW; rw [this]; rfl
theorem com_cut {w a : Int} (h : fitW w) (ha : W64 a) : cutW w (ixor .u64 18446744073709551615 a) = (-1 - a) % p2 w := by
  rw [icom_u64 ha, cut_eq h, ← mod_mod h (-1 - a)]; congr 1; unfold W64 at ha; omega
theorem neg_cut2 {w a : Int} (h : fitW w) : cutW w (IntKind.u64.wrap (0 - a)) = (-a) % p2 w := by rw [cut_wrap h]; congr 1; omega
end Go.Ab
