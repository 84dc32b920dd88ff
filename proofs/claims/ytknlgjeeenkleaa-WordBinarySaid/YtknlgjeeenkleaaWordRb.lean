/- The row wordBinary, out of its contract. -/
import Derived.Test.YtknlgjeeenkleaaWordH
import Derived.Test.YtknlgjeeenkleaaHd
import Derived.Test.YtknlgjeeenkleaaE2
import Derived.Test.YtknlgjeeenkleaaRows
namespace Go.Proofs.Ytknlgjeeenkleaa.wordBinary
open Go.ChangeShapes Go.WideShapes Go.ChangeAt Go.RowKit Go.Ab Go.Ab.Try
set_option linter.unusedVariables false
theorem own : ownKnob Try.prog.godebug = none := by kernel_rfl
theorem laidOut : laidOutB Try.prog = true := by kernel_rfl
theorem core : ∀ pvs, FitTs Try.prog [3, 3, 99] pvs → PC Try.prog 17 pvs (.bool true) := by
  intro pvs h
  simp only [FitTs] at h
  obtain ⟨p0, q0, rfl, h0, p1, q1, rfl, h1, p2, q2, rfl, h2, rfl⟩ := h
  obtain ⟨op, rfl, wop⟩ := h0.int (k := .i64) (by kernel_rfl) (by kernel_rfl)
  obtain ⟨w, rfl, ww⟩ := h1.int (k := .i64) (by kernel_rfl) (by kernel_rfl)
  obtain ⟨ps2, rfl, g2⟩ := h2.agg (fs := [.int .u64, .int .u64]) (by kernel_rfl) (by kernel_rfl)
  simp only [FitL, Fit] at g2
  obtain ⟨a0, b0, rfl, ⟨a, rfl, wa⟩, a1, b1, rfl, ⟨b, rfl, wb⟩, rfl⟩ := g2
  exact c17 op w a b
set_option maxRecDepth 100000 in
theorem lifted (os : Os) (started : os.Started) (H : Type) (enc : TypeId × Value → H) :
    ReturnsInHanded {} Try.checked os 17 .any (Rows.wordBinarySpec.pre6 enc Try.prog Try.f17 Rows.wordBinaryRow.domain false) (Rows.wordBinarySpec.post enc Try.prog Try.f17 false true false false) := by
  refine returnsInHanded_of_change_sized (C := Try.checked) own started (by kernel_rfl) Try.func17
    (ChangeSpec.witness6 (enc := enc) (C := Try.checked) false ⟨#[], #[.int .i64 0, .int .i64 0, .agg #[.int .u64 0, .int .u64 0]], []⟩ 20 (by kernel_rfl) (by kernel_rfl) (by kernel_rfl) (by kernel_rfl)) ?_
  intro W base args ds gs before hval hW _ _ _
  exact law (ts := [3, 3, 99]) (tb := 4) laidOut Try.params17 (by kernel_rfl) (by rfl) Try.underlying4 rfl (fun ds hl => by
    match ds, hl with
    | [_, _, _], _ => rfl) core hval hW
theorem joined : joinedFacts Try.pinned.checked.prog 17 Try.f17 Rows.wordBinarySpec Rows.wordBinaryRow = true :=
  joined_of enter_is lifts_is make_is (by kernel_rfl) (by kernel_rfl) (by kernel_rfl) rfl rfl (by kernel_rfl)
theorem named : Try.pinned.checked.prog.funcNamed Rows.wordBinaryRow.func = some 17 := by kernel_rfl
theorem over : Rows.wordBinaryRow.holds Try.pinned (OpenSpec.ofChange Rows.wordBinarySpec) :=
  OpenClaim.holds_of_wide 17 Try.f17 rfl rfl rfl rfl rfl rfl rfl ⟨rfl, rfl, rfl, rfl, rfl⟩ rfl rfl rfl rfl rfl named Try.func17 joined
    (of_decide_eq_true (by kernel_rfl)) (by unfold Func.isWrapper; first | (rw [if_pos (by decide +kernel)]; kernel_rfl) | (rw [if_neg (by decide +kernel)]; exact ⟨rfl, rfl⟩))
    (fun os started H enc _ => lifted os started H enc)
end Go.Proofs.Ytknlgjeeenkleaa.wordBinary
namespace Go.Proofs.Ytknlgjeeenkleaa
/-- The row. -/
theorem wordBinary_holds : Rows.WordBinarySaid := wordBinary.over
#print axioms wordBinary_holds
end Go.Proofs.Ytknlgjeeenkleaa
