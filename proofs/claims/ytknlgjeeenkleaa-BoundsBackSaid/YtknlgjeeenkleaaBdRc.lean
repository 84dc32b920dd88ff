/- The row boundsBack, out of its contract. -/
import Derived.Test.YtknlgjeeenkleaaBdH
import Derived.Test.YtknlgjeeenkleaaHd
import Derived.Test.YtknlgjeeenkleaaE2
import Derived.Test.YtknlgjeeenkleaaRows
namespace Go.Proofs.Ytknlgjeeenkleaa.boundsBack
open Go.ChangeShapes Go.WideShapes Go.ChangeAt Go.RowKit Go.Ab Go.Ab.Try
set_option linter.unusedVariables false
theorem own : ownKnob Try.prog.godebug = none := by kernel_rfl
theorem laidOut : laidOutB Try.prog = true := by kernel_rfl
theorem core : ∀ pvs, FitTs Try.prog [24, 9] pvs → PC Try.prog 5 pvs (.bool true) := by
  intro pvs h
  simp only [FitTs] at h
  obtain ⟨p0, q0, rfl, h0, p1, q1, rfl, h1, rfl⟩ := h
  obtain ⟨ps0, rfl, g0⟩ := h0.agg (fs := [.int .i64, .int .i64, .int .i64, .int .i64, .int .i64, .int .i64, .int .i64, .int .i64]) (by kernel_rfl) (by kernel_rfl)
  simp only [FitL, Fit] at g0
  obtain ⟨a0, b0, rfl, ⟨a, rfl, wa⟩, a1, b1, rfl, ⟨b, rfl, wb⟩, a2, b2, rfl, ⟨c, rfl, wc⟩, a3, b3, rfl, ⟨d, rfl, wd⟩, a4, b4, rfl, ⟨e, rfl, we⟩, a5, b5, rfl, ⟨f, rfl, wf⟩, a6, b6, rfl, ⟨g, rfl, wg⟩, a7, b7, rfl, ⟨h, rfl, wh⟩, rfl⟩ := g0
  obtain ⟨s, rfl, ws⟩ := h1.str (by kernel_rfl) (by kernel_rfl)
  exact c5 a b c d e f g h s
set_option maxRecDepth 100000 in
theorem lifted (os : Os) (started : os.Started) (H : Type) (enc : TypeId × Value → H) :
    ReturnsInHanded {} Try.checked os 5 .any (Rows.boundsBackSpec.pre6 enc Try.prog Try.f5 Rows.boundsBackRow.domain false) (Rows.boundsBackSpec.post enc Try.prog Try.f5 false true false false) := by
  refine returnsInHanded_of_change_sized (C := Try.checked) own started (by kernel_rfl) Try.func5
    (ChangeSpec.witness6 (enc := enc) (C := Try.checked) false ⟨#[], #[.agg #[.int .i64 0, .int .i64 0, .int .i64 0, .int .i64 0, .int .i64 0, .int .i64 0, .int .i64 0, .int .i64 0], .string ⟨#[]⟩], []⟩ 20 (by kernel_rfl) (by kernel_rfl) (by kernel_rfl) (by kernel_rfl)) ?_
  intro W base args ds gs before hval hW _ _ _
  exact law (ts := [24, 9]) (tb := 4) laidOut Try.params5 (by kernel_rfl) (by rfl) Try.underlying4 rfl (fun ds hl => by
    match ds, hl with
    | [_, _], _ => rfl) core hval hW
theorem joined : joinedFacts Try.pinned.checked.prog 5 Try.f5 Rows.boundsBackSpec Rows.boundsBackRow = true :=
  joined_of enter_is lifts_is make_is (by kernel_rfl) (by kernel_rfl) (by kernel_rfl) rfl rfl (by kernel_rfl)
theorem named : Try.pinned.checked.prog.funcNamed Rows.boundsBackRow.func = some 5 := by kernel_rfl
theorem over : Rows.boundsBackRow.holds Try.pinned (OpenSpec.ofChange Rows.boundsBackSpec) :=
  OpenClaim.holds_of_wide 5 Try.f5 rfl rfl rfl rfl rfl rfl rfl ⟨rfl, rfl, rfl, rfl, rfl⟩ rfl rfl rfl rfl rfl named Try.func5 joined
    (of_decide_eq_true (by kernel_rfl)) (by unfold Func.isWrapper; first | (rw [if_pos (by decide +kernel)]; kernel_rfl) | (rw [if_neg (by decide +kernel)]; exact ⟨rfl, rfl⟩))
    (fun os started H enc _ => lifted os started H enc)
end Go.Proofs.Ytknlgjeeenkleaa.boundsBack
namespace Go.Proofs.Ytknlgjeeenkleaa
/-- The row. -/
theorem boundsBack_holds : Rows.BoundsBackSaid := boundsBack.over
#print axioms boundsBack_holds
end Go.Proofs.Ytknlgjeeenkleaa
