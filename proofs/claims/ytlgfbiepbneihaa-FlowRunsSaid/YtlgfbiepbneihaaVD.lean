/- Codes, states and plays as inputs. -/
import Derived.Test.YtlgfbiepbneihaaVC
import Derived.Test.YtlgfbiepbneihaaDM
import Derived.Test.YtlgfbiepbneihaaKD
namespace Go.Ab.Try
open Go.Proofs Go.Ab Go.RowKit
set_option linter.unusedVariables false
set_option linter.unusedSimpArgs false
set_option linter.unnecessarySimpa false
theorem fit_code {rows : List (List PV)} (hr : ∀ row ∈ rows, FitL [.int .i64, .int .i64, .int .i64, .int .i64, .int .u64] row) : ∃ code : List Ins, rows = code.map inR ∧ OkC code := by
  obtain ⟨l, rfl, hl⟩ := rows_mapP inR (fun i => W64 i.2.2.2.2) fun row hh => by
    have := hr row hh
    simp only [FitL, Fit] at this
    obtain ⟨q, qs, rfl, ⟨x, rfl, wx⟩, q', qs', rfl, ⟨y, rfl, wy⟩, q2, qs2, rfl, ⟨z, rfl, wz⟩, q3, qs3, rfl, ⟨u, rfl, wu⟩, q4, qs4, rfl, ⟨v, rfl, wv⟩, rfl⟩ := this
    exact ⟨(x, y, z, u, v), rfl, W64.u (u64_of_wf wv)⟩
  exact ⟨l, rfl, hl⟩
theorem u8_of_wf {n : Int} (h : (Lit.int .u8 n).wf = true) : 0 ≤ n ∧ n < 256 := by
  simp [Lit.wf, IntKind.min, IntKind.max, IntKind.bits, IntKind.signed] at h; omega
theorem fit_bytes {rows : List (List PV)} (hr : ∀ row ∈ rows, FitL [.int .u8] row) : ∃ inp : List Int, rows = inp.map byR ∧ OkI inp := by
  obtain ⟨l, rfl, hl⟩ := rows_mapP byR (fun x => 0 ≤ x ∧ x < 256) fun row hh => by
    have := hr row hh
    simp only [FitL, Fit] at this
    obtain ⟨q, qs, rfl, ⟨x, rfl, wx⟩, rfl⟩ := this
    exact ⟨x, rfl, u8_of_wf wx⟩
  exact ⟨l, rfl, hl⟩
theorem fit_words {rows : List (List PV)} (hr : ∀ row ∈ rows, FitL [.int .u64] row) : ∃ D : List Int, rows = D.map wdR ∧ ∀ x ∈ D, W64 x := by
  obtain ⟨l, rfl, hl⟩ := rows_mapP wdR W64 fun row hh => by
    have := hr row hh
    simp only [FitL, Fit] at this
    obtain ⟨q, qs, rfl, ⟨x, rfl, wx⟩, rfl⟩ := this
    exact ⟨x, rfl, W64.u (u64_of_wf wx)⟩
  exact ⟨l, rfl, hl⟩
theorem fit_pends {rows : List (List PV)} (hr : ∀ row ∈ rows, FitL [.int .i64, .int .u64, .int .i64] row) : ∃ l : List Pn, rows = l.map pnR ∧ ∀ p ∈ l, W64 p.2.1 := by
  obtain ⟨l, rfl, hl⟩ := rows_mapP pnR (fun p => W64 p.2.1) fun row hh => by
    have := hr row hh
    simp only [FitL, Fit] at this
    obtain ⟨q, qs, rfl, ⟨x, rfl, wx⟩, q', qs', rfl, ⟨y, rfl, wy⟩, q'', qs'', rfl, ⟨z, rfl, wz⟩, rfl⟩ := this
    exact ⟨(x, y, z), rfl, W64.u (u64_of_wf wy)⟩
  exact ⟨l, rfl, hl⟩
theorem fit_play {ps : List PV} (g : FitL [.slice [.int .i64, .int .i64, .int .i64, .int .i64, .int .u64], .slice [.int .u8], .slice [.int .u64], .slice [.int .i64, .int .u64, .int .i64], .int .i64, .int .i64, .int .i64, .int .i64] ps) :
    ∃ code inp D l e n fuel most, PV.agg ps = playV code inp D l e n fuel most ∧ OkC code ∧ OkI inp ∧ (∀ x ∈ D, W64 x) ∧ (∀ p ∈ l, W64 p.2.1) := by
  simp only [FitL, Fit] at g
  obtain ⟨_, _, rfl, ⟨ra, rfl, _, ha⟩, _, _, rfl, ⟨rb, rfl, _, hb⟩, _, _, rfl, ⟨rd, rfl, _, hd⟩, _, _, rfl, ⟨rl, rfl, _, hl⟩, _, _, rfl, ⟨e, rfl, _⟩, _, _, rfl, ⟨n, rfl, _⟩, _, _, rfl, ⟨fu, rfl, _⟩, _, _, rfl, ⟨mo, rfl, _⟩, rfl⟩ := g
  obtain ⟨code, rfl, hco⟩ := fit_code (rows := ra) (fun row hh => by simp only [FitL, Fit]; exact ha row hh)
  obtain ⟨inp, rfl, hin⟩ := fit_bytes (rows := rb) (fun row hh => by simp only [FitL, Fit]; exact hb row hh)
  obtain ⟨D, rfl, hD⟩ := fit_words (rows := rd) (fun row hh => by simp only [FitL, Fit]; exact hd row hh)
  obtain ⟨l, rfl, hL⟩ := fit_pends (rows := rl) (fun row hh => by simp only [FitL, Fit]; exact hl row hh)
  exact ⟨code, inp, D, l, e, n, fu, mo, rfl, hco, hin, hD, hL⟩
end Go.Ab.Try
