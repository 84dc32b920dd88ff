/- The row vmSteps, out of its contract. -/
import Derived.Test.YtlgfbiepbneihaaVmJ
import Derived.Test.YtlgfbiepbneihaaVD
import Derived.Test.YtlgfbiepbneihaaHd
import Derived.Test.YtlgfbiepbneihaaKD
import Derived.Test.YtlgfbiepbneihaaRows
namespace Go.Proofs.Ytlgfbiepbneihaa.vmSteps
open Go.ChangeShapes Go.WideShapes Go.ChangeAt Go.RowKit Go.Ab Go.Ab.Try
set_option linter.unusedVariables false
theorem own : ownKnob Try.prog.godebug = none := by kernel_rfl
theorem laidOut : laidOutB Try.prog = true := by kernel_rfl
theorem core : ∀ pvs, FitTs Try.prog [22, 46, 3] pvs → PC Try.prog 10 pvs (.bool true) := by
  intro pvs h
  simp only [FitTs] at h
  obtain ⟨p0, q0, rfl, h0, p1, q1, rfl, h1, p2, q2, rfl, h2, rfl⟩ := h
  obtain ⟨rows, rfl, _, hr⟩ := h0.slice (es := [.int .i64, .int .i64, .int .i64, .int .i64, .int .u64]) (by kernel_rfl) (by kernel_rfl)
  obtain ⟨code, rfl, hc⟩ := fit_code hr
  obtain ⟨ps, rfl, g⟩ := h1.agg (fs := [.int .u64, .int .u64, .int .u64, .int .u64, .int .u64, .int .u64, .int .u64, .int .u64, .slice [.int .u64], .int .i64, .int .i64, .int .i64, .int .i64, .int .i64, .int .u64, .slice [.int .u64], .slice [.int .i64, .int .u64, .int .i64], .int .i64]) (by kernel_rfl) (by kernel_rfl)
  obtain ⟨s, hs, hw, _⟩ := fit_st g
  obtain ⟨most, rfl, _⟩ := h2.int (k := .i64) (by kernel_rfl) (by kernel_rfl)
  rw [hs]; exact c10 code s most hc hw
set_option maxRecDepth 100000 in
theorem lifted (os : Os) (started : os.Started) (H : Type) (enc : TypeId × Value → H) :
    ReturnsInHanded {} Try.checked os 10 .any (Rows.vmStepsSpec.pre6 enc Try.prog Try.f10 Rows.vmStepsRow.domain false) (Rows.vmStepsSpec.post enc Try.prog Try.f10 false true false false) := by
  refine returnsInHanded_of_change_sized (C := Try.checked) own started (by kernel_rfl) Try.func10
    (ChangeSpec.witness6 (enc := enc) (C := Try.checked) false ⟨#[], #[.slice none 0 0, .agg #[.int .u64 0, .int .u64 0, .int .u64 0, .int .u64 0, .int .u64 0, .int .u64 0, .int .u64 0, .int .u64 0, .slice none 0 0, .int .i64 0, .int .i64 0, .int .i64 0, .int .i64 0, .int .i64 0, .int .u64 0, .slice none 0 0, .slice none 0 0, .int .i64 0], .int .i64 0], []⟩ 20 (by kernel_rfl) (by kernel_rfl) (by kernel_rfl) (by kernel_rfl)) ?_
  intro W base args ds gs before hval hW _ _ _
  exact law (ts := [22, 46, 3]) (tb := 4) laidOut Try.params10 (by kernel_rfl) (by rfl) Try.underlying4 rfl (fun ds hl => by
    match ds, hl with
    | [_, _, _], _ => rfl) core hval hW
theorem joined : joinedFacts Try.pinned.checked.prog 10 Try.f10 Rows.vmStepsSpec Rows.vmStepsRow = true :=
  joined_of enter_is lifts_is make_is (by kernel_rfl) (by kernel_rfl) (by kernel_rfl) rfl rfl (by kernel_rfl)
theorem named : Try.pinned.checked.prog.funcNamed Rows.vmStepsRow.func = some 10 := by kernel_rfl
theorem over : Rows.vmStepsRow.holds Try.pinned (OpenSpec.ofChange Rows.vmStepsSpec) :=
  OpenClaim.holds_of_wide 10 Try.f10 rfl rfl rfl rfl rfl rfl rfl ⟨rfl, rfl, rfl, rfl, rfl⟩ rfl rfl rfl rfl rfl named Try.func10 joined
    (of_decide_eq_true (by kernel_rfl)) (by unfold Func.isWrapper; first | (rw [if_pos (by decide +kernel)]; kernel_rfl) | (rw [if_neg (by decide +kernel)]; exact ⟨rfl, rfl⟩))
    (fun os started H enc _ => lifted os started H enc)
end Go.Proofs.Ytlgfbiepbneihaa.vmSteps
namespace Go.Proofs.Ytlgfbiepbneihaa
/-- The row. -/
theorem vmSteps_holds : Rows.VmStepsSaid := vmSteps.over
#print axioms vmSteps_holds
end Go.Proofs.Ytlgfbiepbneihaa
