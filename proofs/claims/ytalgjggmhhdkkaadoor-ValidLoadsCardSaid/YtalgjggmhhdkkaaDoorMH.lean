/- Programs and texts as inputs. -/
import Derived.Test.YtalgjggmhhdkkaaDoorMG
import Derived.Test.YtalgjggmhhdkkaaDoorKD
namespace Go.Ab.Tryd
open Go.Proofs Go.Ab Go.RowKit
set_option linter.unusedVariables false
set_option linter.unusedSimpArgs false
set_option linter.unnecessarySimpa false
theorem fit_code {rows : List (List PV)} (hr : ∀ row ∈ rows, FitL [.int .i64, .int .i64, .int .i64, .int .i64, .int .u64] row) : ∃ code : List Ins, rows = code.map inR ∧ OkC code := by
  obtain ⟨l, rfl, hl⟩ := rows_mapP inR (fun i => W64 i.2.2.2.2) fun row hh => by
    have := hr row hh
    simp only [FitL, Fit] at this
    obtain ⟨q, qs, rfl, ⟨x, rfl, wx⟩, q', qs', rfl, ⟨y, rfl, wy⟩, q2, qs2, rfl, ⟨z, rfl, wz⟩, q3, qs3, rfl, ⟨u, rfl, wu⟩, q4, qs4, rfl, ⟨v, rfl, wv⟩, rfl⟩ := this
    exact ⟨(x, y, z, u, v), rfl, W64.u (u64_of_wf wv)⟩
  exact ⟨l, rfl, hl⟩
theorem fit_words {rows : List (List PV)} (hr : ∀ row ∈ rows, FitL [.int .u64] row) : ∃ D : List Int, rows = D.map wdR ∧ ∀ x ∈ D, W64 x := by
  obtain ⟨l, rfl, hl⟩ := rows_mapP wdR W64 fun row hh => by
    have := hr row hh
    simp only [FitL, Fit] at this
    obtain ⟨q, qs, rfl, ⟨x, rfl, wx⟩, rfl⟩ := this
    exact ⟨x, rfl, W64.u (u64_of_wf wx)⟩
  exact ⟨l, rfl, hl⟩
theorem fit_pg {ps : List PV} (g : FitL [.int .i64, .int .i64, .slice [.int .u64], .slice [.int .i64, .int .i64, .int .i64, .int .i64, .int .u64], .slice [.int .i64, .int .i64, .int .i64, .int .i64, .int .u64], .slice [.int .i64, .int .i64, .int .i64, .int .i64, .int .u64]] ps) :
    ∃ p, PV.agg ps = pgV p ∧ OkPg p := by
  simp only [FitL, Fit] at g
  obtain ⟨_, _, rfl, ⟨b, rfl, _⟩, _, _, rfl, ⟨c, rfl, _⟩, _, _, rfl, ⟨rd, rfl, _, hd⟩, _, _, rfl, ⟨r0, rfl, _, h0⟩, _, _, rfl, ⟨r1, rfl, _, h1⟩, _, _, rfl, ⟨r2, rfl, _, h2⟩, rfl⟩ := g
  obtain ⟨D, rfl, hD⟩ := fit_words (rows := rd) (fun row hh => by simp only [FitL, Fit]; exact hd row hh)
  obtain ⟨c0, rfl, k0⟩ := fit_code (rows := r0) (fun row hh => by simp only [FitL, Fit]; exact h0 row hh)
  obtain ⟨c1, rfl, k1⟩ := fit_code (rows := r1) (fun row hh => by simp only [FitL, Fit]; exact h1 row hh)
  obtain ⟨c2, rfl, k2⟩ := fit_code (rows := r2) (fun row hh => by simp only [FitL, Fit]; exact h2 row hh)
  exact ⟨⟨b, c, D, c0, c1, c2⟩, rfl, ⟨hD, k0, k1, k2⟩⟩
theorem bytes_ok (s : ByteArray) : OkB (bytes s) := fun x hx => by
  simp only [bytes, List.mem_map] at hx
  obtain ⟨b, _, rfl⟩ := hx
  have := b.toNat_lt
  omega
end Go.Ab.Tryd
