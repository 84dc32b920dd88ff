/- The row wordRings, out of its contract. -/
import Derived.Test.YtknlgjeeenkleaaWordH
import Derived.Test.YtknlgjeeenkleaaHd
import Derived.Test.YtknlgjeeenkleaaE2
import Derived.Test.YtknlgjeeenkleaaRows
namespace Go.Proofs.Ytknlgjeeenkleaa.wordRings
open Go.ChangeShapes Go.WideShapes Go.ChangeAt Go.RowKit Go.Ab Go.Ab.Try
set_option linter.unusedVariables false
theorem own : ownKnob Try.prog.godebug = none := by kernel_rfl
theorem laidOut : laidOutB Try.prog = true := by kernel_rfl
theorem core : ∀ pvs, FitTs Try.prog [3, 99, 44] pvs → PC Try.prog 19 pvs (.bool true) := by
  intro pvs h
  simp only [FitTs] at h
  obtain ⟨p0, q0, rfl, h0, p1, q1, rfl, h1, p2, q2, rfl, h2, rfl⟩ := h
  obtain ⟨w, rfl, ww⟩ := h0.int (k := .i64) (by kernel_rfl) (by kernel_rfl)
  obtain ⟨ps1, rfl, g1⟩ := h1.agg (fs := [.int .u64, .int .u64]) (by kernel_rfl) (by kernel_rfl)
  simp only [FitL, Fit] at g1
  obtain ⟨a0, b0, rfl, ⟨a, rfl, wa⟩, a1, b1, rfl, ⟨b, rfl, wb⟩, rfl⟩ := g1
  obtain ⟨c, rfl, wc⟩ := h2.int (k := .u64) (by kernel_rfl) (by kernel_rfl)
  exact c19 w a b c (W64.u (u64_of_wf wa))
set_option maxRecDepth 100000 in
theorem lifted (os : Os) (started : os.Started) (H : Type) (enc : TypeId × Value → H) :
    ReturnsInHanded {} Try.checked os 19 .any (Rows.wordRingsSpec.pre6 enc Try.prog Try.f19 Rows.wordRingsRow.domain false) (Rows.wordRingsSpec.post enc Try.prog Try.f19 false true false false) := by
  refine returnsInHanded_of_change_sized (C := Try.checked) own started (by kernel_rfl) Try.func19
    (ChangeSpec.witness6 (enc := enc) (C := Try.checked) false ⟨#[], #[.int .i64 0, .agg #[.int .u64 0, .int .u64 0], .int .u64 0], []⟩ 20 (by kernel_rfl) (by kernel_rfl) (by kernel_rfl) (by kernel_rfl)) ?_
  intro W base args ds gs before hval hW _ _ _
  exact law (ts := [3, 99, 44]) (tb := 4) laidOut Try.params19 (by kernel_rfl) (by rfl) Try.underlying4 rfl (fun ds hl => by
    match ds, hl with
    | [_, _, _], _ => rfl) core hval hW
theorem joined : joinedFacts Try.pinned.checked.prog 19 Try.f19 Rows.wordRingsSpec Rows.wordRingsRow = true :=
  joined_of enter_is lifts_is make_is (by kernel_rfl) (by kernel_rfl) (by kernel_rfl) rfl rfl (by kernel_rfl)
theorem named : Try.pinned.checked.prog.funcNamed Rows.wordRingsRow.func = some 19 := by kernel_rfl
theorem over : Rows.wordRingsRow.holds Try.pinned (OpenSpec.ofChange Rows.wordRingsSpec) :=
  OpenClaim.holds_of_wide 19 Try.f19 rfl rfl rfl rfl rfl rfl rfl ⟨rfl, rfl, rfl, rfl, rfl⟩ rfl rfl rfl rfl rfl named Try.func19 joined
    (of_decide_eq_true (by kernel_rfl)) (by unfold Func.isWrapper; first | (rw [if_pos (by decide +kernel)]; kernel_rfl) | (rw [if_neg (by decide +kernel)]; exact ⟨rfl, rfl⟩))
    (fun os started H enc _ => lifted os started H enc)
end Go.Proofs.Ytknlgjeeenkleaa.wordRings
namespace Go.Proofs.Ytknlgjeeenkleaa
/-- The row. -/
theorem wordRings_holds : Rows.WordRingsSaid := wordRings.over
#print axioms wordRings_holds
end Go.Proofs.Ytknlgjeeenkleaa
