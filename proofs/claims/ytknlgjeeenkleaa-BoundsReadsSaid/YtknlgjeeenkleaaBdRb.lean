/- The row boundsReads, out of its contract. -/
import Derived.Test.YtknlgjeeenkleaaBdH
import Derived.Test.YtknlgjeeenkleaaHd
import Derived.Test.YtknlgjeeenkleaaE2
import Derived.Test.YtknlgjeeenkleaaRows
namespace Go.Proofs.Ytknlgjeeenkleaa.boundsReads
open Go.ChangeShapes Go.WideShapes Go.ChangeAt Go.RowKit Go.Ab Go.Ab.Try
set_option linter.unusedVariables false
theorem own : ownKnob Try.prog.godebug = none := by kernel_rfl
theorem laidOut : laidOutB Try.prog = true := by kernel_rfl
theorem core : ∀ pvs, FitTs Try.prog [9] pvs → PC Try.prog 4 pvs (.bool true) := by
  intro pvs h
  simp only [FitTs] at h
  obtain ⟨p0, q0, rfl, h0, rfl⟩ := h
  obtain ⟨s, rfl, ws⟩ := h0.str (by kernel_rfl) (by kernel_rfl)
  exact c4 s
set_option maxRecDepth 100000 in
theorem lifted (os : Os) (started : os.Started) (H : Type) (enc : TypeId × Value → H) :
    ReturnsInHanded {} Try.checked os 4 .any (Rows.boundsReadsSpec.pre6 enc Try.prog Try.f4 Rows.boundsReadsRow.domain false) (Rows.boundsReadsSpec.post enc Try.prog Try.f4 false true false false) := by
  refine returnsInHanded_of_change_sized (C := Try.checked) own started (by kernel_rfl) Try.func4
    (ChangeSpec.witness6 (enc := enc) (C := Try.checked) false ⟨#[], #[.string ⟨#[]⟩], []⟩ 20 (by kernel_rfl) (by kernel_rfl) (by kernel_rfl) (by kernel_rfl)) ?_
  intro W base args ds gs before hval hW _ _ _
  exact law (ts := [9]) (tb := 4) laidOut Try.params4 (by kernel_rfl) (by rfl) Try.underlying4 rfl (fun ds hl => by
    match ds, hl with
    | [_], _ => rfl) core hval hW
theorem joined : joinedFacts Try.pinned.checked.prog 4 Try.f4 Rows.boundsReadsSpec Rows.boundsReadsRow = true :=
  joined_of enter_is lifts_is make_is (by kernel_rfl) (by kernel_rfl) (by kernel_rfl) rfl rfl (by kernel_rfl)
theorem named : Try.pinned.checked.prog.funcNamed Rows.boundsReadsRow.func = some 4 := by kernel_rfl
theorem over : Rows.boundsReadsRow.holds Try.pinned (OpenSpec.ofChange Rows.boundsReadsSpec) :=
  OpenClaim.holds_of_wide 4 Try.f4 rfl rfl rfl rfl rfl rfl rfl ⟨rfl, rfl, rfl, rfl, rfl⟩ rfl rfl rfl rfl rfl named Try.func4 joined
    (of_decide_eq_true (by kernel_rfl)) (by unfold Func.isWrapper; first | (rw [if_pos (by decide +kernel)]; kernel_rfl) | (rw [if_neg (by decide +kernel)]; exact ⟨rfl, rfl⟩))
    (fun os started H enc _ => lifted os started H enc)
end Go.Proofs.Ytknlgjeeenkleaa.boundsReads
namespace Go.Proofs.Ytknlgjeeenkleaa
/-- The row. -/
theorem boundsReads_holds : Rows.BoundsReadsSaid := boundsReads.over
#print axioms boundsReads_holds
end Go.Proofs.Ytknlgjeeenkleaa
