/- Rows and bytes, looked at. -/
import Derived.Test.YtalgjggmhhdkkaaDoorMA
namespace Go.Ab.Tryd
open Go.Ab
set_option linter.unusedVariables false
set_option linter.unusedSimpArgs false
set_option linter.unnecessarySimpa false
theorem inx_at {l : List Ins} {j : Int} (h : 0 ≤ j ∧ j < l.length) : (l.map inR)[j.toNat]? = some (inR (l.getD j.toNat i0)) := in_at h
theorem wdx_at {l : List Int} {j : Int} (h : 0 ≤ j ∧ j < l.length) : (l.map wdR)[j.toNat]? = some (wdR (l.getD j.toNat 0)) := wd_at h
theorem bat8 {a b c d e f g h : Int} (ha : 0 ≤ a ∧ a < 256) (hb : 0 ≤ b ∧ b < 256) (hc : 0 ≤ c ∧ c < 256) (hd : 0 ≤ d ∧ d < 256) (he : 0 ≤ e ∧ e < 256) (hf : 0 ≤ f ∧ f < 256) (hg : 0 ≤ g ∧ g < 256) (hh : 0 ≤ h ∧ h < 256) :
    bat (strOf [a, b, c, d, e, f, g, h]) 0 = a ∧ bat (strOf [a, b, c, d, e, f, g, h]) 1 = b ∧ bat (strOf [a, b, c, d, e, f, g, h]) 2 = c ∧ bat (strOf [a, b, c, d, e, f, g, h]) 3 = d ∧ bat (strOf [a, b, c, d, e, f, g, h]) 4 = e ∧ bat (strOf [a, b, c, d, e, f, g, h]) 5 = f ∧ bat (strOf [a, b, c, d, e, f, g, h]) 6 = g ∧ bat (strOf [a, b, c, d, e, f, g, h]) 7 = h := by
  have ok : ∀ n ∈ [a, b, c, d, e, f, g, h], 0 ≤ n ∧ n < 256 := by
    intro n hn; simp only [List.mem_cons, List.not_mem_nil, or_false] at hn
    rcases hn with rfl | rfl | rfl | rfl | rfl | rfl | rfl | rfl <;> assumption
  refine ⟨?_, ?_, ?_, ?_, ?_, ?_, ?_, ?_⟩ <;> (rw [bat_strOf ok]; rfl)
structure smP (p : Pg) : Prop where
  D : (p.D.length : Int) ≤ 9223372036854775807
  c0 : (p.c0.length : Int) ≤ 9223372036854775807
  c1 : (p.c1.length : Int) ≤ 9223372036854775807
  c2 : (p.c2.length : Int) ≤ 9223372036854775807
theorem pg_eq {p q : Pg} : p = q ↔ p.bl = q.bl ∧ p.ce = q.ce ∧ p.D = q.D ∧ p.c0 = q.c0 ∧ p.c1 = q.c1 ∧ p.c2 = q.c2 := by
  cases p; cases q; simp
end Go.Ab.Tryd
