/- Where a run may go: lists of places. -/
import Derived.Test.YtlgfbiepbneihaaLV
import Derived.Test.YtlgfbiepbneihaaKE
namespace Go.Ab.Try
open Go.Proofs Go.Ab
set_option linter.unusedVariables false
set_option linter.unusedSimpArgs false
set_option linter.unnecessarySimpa false
def nR (x : Int) : List PV := [.int .i64 x]
theorem n_at {D : List Int} {j : Int} (h : 0 ≤ j ∧ j < D.length) : (D.map nR)[j.toNat]? = some [.int .i64 (D.getD j.toNat 0)] := by
  have : j.toNat < D.length := by omega
  simp [this, nR]
def sort2 (x y : Int) : List Int := if x = y then [x] else if x < y then [x, y] else [y, x]
theorem next_no {code : List Ins} {pc : Int} (h : ¬ mayS code pc) : nextS code pc = [] := by unfold nextS; rw [if_neg h]
theorem next_is {code : List Ins} {pc op a b c m : Int} (h0 : 0 ≤ pc) (h1 : pc < code.length) (hI : code.getD pc.toNat i0 = (op, a, b, c, m)) (h : checkE op a b c m 0 code.length = 0) : nextS code pc = nextI op m pc := by
  unfold nextS; rw [if_pos ((may_in h0 h1 hI).2 h), hI]
theorem next_bad {code : List Ins} {pc op a b c m : Int} (h0 : 0 ≤ pc) (h1 : pc < code.length) (hI : code.getD pc.toNat i0 = (op, a, b, c, m)) (h : ¬ checkE op a b c m 0 code.length = 0) : nextS code pc = [] := next_no (fun q => h ((may_in h0 h1 hI).1 q))
theorem next_out {code : List Ins} {pc : Int} (h : ¬ (0 ≤ pc ∧ pc < code.length)) : nextS code pc = [] := next_no (fun q => h ⟨q.1, q.2.1⟩)
theorem nextI_6 {m pc : Int} : nextI 6 m pc = if pc + 1 = m then [pc + 1] else [if pc + 1 < m then pc + 1 else m, if m < pc + 1 then pc + 1 else m] := by
  unfold nextI
  rw [if_neg (by decide), if_pos rfl]
  split
  · rfl
  · split
    · rw [if_neg (by omega)]
    · rw [if_pos (by omega)]
theorem sort2_6 {m pc : Int} : sort2 (pc + 1) m = nextI 6 m pc := by
  rw [nextI_6]; unfold sort2
  split
  · rfl
  · split
    · rw [if_neg (by omega)]
    · rw [if_pos (by omega)]
theorem nextI_5 {m pc : Int} : nextI 5 m pc = [m] := rfl
theorem nextI_14 {m pc : Int} : nextI 14 m pc = [] := rfl
theorem nextI_15 {m pc : Int} : nextI 15 m pc = [] := rfl
theorem nextI_o {op m pc : Int} (h5 : ¬ op = 5) (h6 : ¬ op = 6) (h14 : ¬ op = 14) (h15 : ¬ op = 15) : nextI op m pc = [pc + 1] := by
  unfold nextI; rw [if_neg h5, if_neg h6, if_neg (by omega)]
end Go.Ab.Try
