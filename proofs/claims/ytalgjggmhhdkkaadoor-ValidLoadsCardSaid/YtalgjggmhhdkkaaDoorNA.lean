/- Programs: which may be, and why not. -/
import Derived.Test.YtalgjggmhhdkkaaDoorMG
import Derived.Test.YtalgjggmhhdkkaaDoorIL
namespace Go.Ab.Tryd
open Go.Proofs Go.Ab
set_option linter.unusedVariables false
set_option linter.unusedSimpArgs false
set_option linter.unnecessarySimpa false
/-- Why an instruction may not be. -/
def badI (l : List Ins) (r : Int) (i : Nat) : Int := checkE (l.getD i i0).1 (l.getD i i0).2.1 (l.getD i i0).2.2.1 (l.getD i i0).2.2.2.1 (l.getD i i0).2.2.2.2 r l.length
/-- The first one, from a place on. -/
def badF (l : List Ins) (r : Int) : Nat → Nat → Int × Int
  | 0, _ => (0, 0)
  | n + 1, i => if badI l r i = 0 then badF l r n (i + 1) else ((i : Int), badI l r i)
def codeE (l : List Ins) (r : Int) : Int × Int := if l.length < 1 ∨ 64 < l.length then (0, 13) else badF l r l.length 0
theorem badF_step {l : List Ins} {r : Int} {i : Nat} (h : i < l.length) (h0 : badI l r i = 0) : badF l r (l.length - i) i = badF l r (l.length - (i + 1)) (i + 1) := by
  rw [show l.length - i = (l.length - (i + 1)) + 1 by omega, badF, if_pos h0]
theorem badF_hit {l : List Ins} {r : Int} {i : Nat} (h : i < l.length) (h0 : ¬ badI l r i = 0) : badF l r (l.length - i) i = ((i : Int), badI l r i) := by
  rw [show l.length - i = (l.length - (i + 1)) + 1 by omega, badF, if_neg h0]
theorem badF_end {l : List Ins} {r : Int} {i : Nat} (h : ¬ i < l.length) : badF l r (l.length - i) i = (0, 0) := by
  rw [show l.length - i = 0 by omega, badF]
theorem codeE_in {l : List Ins} {r : Int} (h : 1 ≤ l.length ∧ l.length ≤ 64) : codeE l r = badF l r (l.length - 0) 0 := by
  unfold codeE; rw [if_neg (by omega)]; rfl
theorem codeE_out {l : List Ins} {r : Int} (h : ¬ (1 ≤ l.length ∧ l.length ≤ 64)) : codeE l r = (0, 13) := by
  unfold codeE; rw [if_pos (by omega)]
theorem codeE_len {l : List Ins} {r : Int} (h : (codeE l r).2 = 0) : 1 ≤ l.length ∧ l.length ≤ 64 :=
  Classical.byContradiction fun hn => by rw [codeE_out hn] at h; cases h
def geoB (p : Pg) : Prop := p.bl < 1 ∨ 8 < p.bl ∨ p.ce < 0 ∨ 8 < p.ce ∨ ¬ (p.D.length : Int) = p.bl
instance (p : Pg) : Decidable (geoB p) := by unfold geoB; infer_instance
def checkP (p : Pg) : Int × Int × Int :=
  if geoB p then (0, 0, 17)
  else if ¬ (codeE p.c0 0).2 = 0 then (0, codeE p.c0 0)
  else if ¬ (codeE p.c1 1).2 = 0 then (1, codeE p.c1 1)
  else if ¬ (codeE p.c2 2).2 = 0 then (2, codeE p.c2 2) else (0, 0, 0)
structure InP (p : Pg) : Prop where
  b1 : 1 ≤ p.bl
  b8 : p.bl ≤ 8
  c1 : 0 ≤ p.ce
  c8 : p.ce ≤ 8
  d : (p.D.length : Int) = p.bl
  l0 : p.c0.length ≤ 64
  l1 : p.c1.length ≤ 64
  l2 : p.c2.length ≤ 64
theorem check_in {p : Pg} (h : (checkP p).2.2 = 0) : InP p := by
  unfold checkP at h
  split at h
  · cases h
  · rename_i hg
    unfold geoB at hg
    split at h
    · contradiction
    · rename_i h0
      split at h
      · contradiction
      · rename_i h1
        split at h
        · contradiction
        · rename_i h2
          have k0 := codeE_len (Classical.not_not.1 h0)
          have k1 := codeE_len (Classical.not_not.1 h1)
          have k2 := codeE_len (Classical.not_not.1 h2)
          exact ⟨by omega, by omega, by omega, by omega, by omega, k0.2, k1.2, k2.2⟩
/-- What is of the right kind of numbers. -/
def loadL (l : List Int) : Res := if (readL l).2 = 0 then (if (checkP (readL l).1).2.2 = 0 then readL l else (pg0, (checkP (readL l).1).2.2)) else (pg0, (readL l).2)
end Go.Ab.Tryd
