/- Devices as inputs. -/
import Derived.Test.YtlgfbiepbneihaaDkG
import Derived.Test.YtlgfbiepbneihaaKD
namespace Go.Ab.Try
open Go.Proofs Go.Ab Go.RowKit
set_option linter.unusedVariables false
set_option linter.unusedSimpArgs false
set_option linter.unnecessarySimpa false
theorem u64_0 {b : Int} (h : (Lit.int .u64 b).wf = true) : 0 ≤ b := (W64.u (u64_of_wf h)).1
/-- A device is one. -/
theorem fit_dev {ps : List PV} (g : FitL [.slice [.int .u64], .slice [.int .i64, .int .u64, .int .i64], .int .i64] ps) :
    ∃ D l e, PV.agg ps = devV D l e ∧ (∀ x ∈ D, W64 x) ∧ (∀ p ∈ l, I64 p.1 ∧ W64 p.2.1 ∧ I64 p.2.2) ∧ I64 e ∧ (D.length : Int) ≤ 9223372036854775807 ∧ (l.length : Int) ≤ 9223372036854775807 := by
  have hM : maxLen = 9223372036854775807 := by decide
  simp only [FitL, Fit] at g
  obtain ⟨a0, b0, rfl, ⟨rows, rfl, hl, hr⟩, a1, b1, rfl, ⟨rows2, rfl, hl2, hr2⟩, a2, b2, rfl, ⟨e, rfl, we⟩, rfl⟩ := g
  obtain ⟨D, rfl, hD⟩ := rows_mapP wdR W64 fun row hh => by
    obtain ⟨q, qs, rfl, ⟨x, rfl, wx⟩, rfl⟩ := hr row hh
    exact ⟨x, rfl, (W64.u (u64_of_wf wx))⟩
  obtain ⟨l, rfl, hL⟩ := rows_mapP pnR (fun p => I64 p.1 ∧ W64 p.2.1 ∧ I64 p.2.2) fun row hh => by
    obtain ⟨q, qs, rfl, ⟨x, rfl, wx⟩, q', qs', rfl, ⟨y, rfl, wy⟩, q'', qs'', rfl, ⟨z, rfl, wz⟩, rfl⟩ := hr2 row hh
    exact ⟨(x, y, z), rfl, i64_of_wf wx, (W64.u (u64_of_wf wy)), i64_of_wf wz⟩
  exact ⟨D, l, e, rfl, hD, hL, i64_of_wf we, by simp at hl; omega, by simp at hl2; omega⟩
end Go.Ab.Try
