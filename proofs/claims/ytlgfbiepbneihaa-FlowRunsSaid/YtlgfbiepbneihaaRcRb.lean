/- The row flowRuns, out of its contract. -/
import Derived.Test.YtlgfbiepbneihaaRcM
import Derived.Test.YtlgfbiepbneihaaVD
import Derived.Test.YtlgfbiepbneihaaHd
import Derived.Test.YtlgfbiepbneihaaKD
import Derived.Test.YtlgfbiepbneihaaRows
namespace Go.Proofs.Ytlgfbiepbneihaa.flowRuns
open Go.ChangeShapes Go.WideShapes Go.ChangeAt Go.RowKit Go.Ab Go.Ab.Try
set_option linter.unusedVariables false
theorem own : ownKnob Try.prog.godebug = none := by kernel_rfl
theorem laidOut : laidOutB Try.prog = true := by kernel_rfl
theorem core : ∀ pvs, FitTs Try.prog [41] pvs → PC Try.prog 4 pvs (.bool true) := by
  intro pvs h
  simp only [FitTs] at h
  obtain ⟨p0, q0, rfl, h0, rfl⟩ := h
  obtain ⟨ps, rfl, g⟩ := h0.agg (fs := [.slice [.int .i64, .int .i64, .int .i64, .int .i64, .int .u64], .slice [.int .u8], .slice [.int .u64], .slice [.int .i64, .int .u64, .int .i64], .int .i64, .int .i64, .int .i64, .int .i64]) (by kernel_rfl) (by kernel_rfl)
  obtain ⟨code, inp, D, l, e, n, fuel, most, hp, hc, hi, hD, hl⟩ := fit_play g
  rw [hp]; exact c4 code inp D l e n fuel most hc hi hD hl
set_option maxRecDepth 100000 in
theorem lifted (os : Os) (started : os.Started) (H : Type) (enc : TypeId × Value → H) :
    ReturnsInHanded {} Try.checked os 4 .any (Rows.flowRunsSpec.pre6 enc Try.prog Try.f4 Rows.flowRunsRow.domain false) (Rows.flowRunsSpec.post enc Try.prog Try.f4 false true false false) := by
  refine returnsInHanded_of_change_sized (C := Try.checked) own started (by kernel_rfl) Try.func4
    (ChangeSpec.witness6 (enc := enc) (C := Try.checked) false ⟨#[], #[.agg #[.slice none 0 0, .slice none 0 0, .slice none 0 0, .slice none 0 0, .int .i64 0, .int .i64 0, .int .i64 0, .int .i64 0]], []⟩ 20 (by kernel_rfl) (by kernel_rfl) (by kernel_rfl) (by kernel_rfl)) ?_
  intro W base args ds gs before hval hW _ _ _
  exact law (ts := [41]) (tb := 4) laidOut Try.params4 (by kernel_rfl) (by rfl) Try.underlying4 rfl (fun ds hl => by
    match ds, hl with
    | [_], _ => rfl) core (fun x hx => by cases hx) hval hW
theorem joined : joinedFacts Try.pinned.checked.prog 4 Try.f4 Rows.flowRunsSpec Rows.flowRunsRow = true :=
  joined_of enter_is lifts_is make_is (by kernel_rfl) (by kernel_rfl) (by kernel_rfl) rfl rfl (by kernel_rfl)
theorem named : Try.pinned.checked.prog.funcNamed Rows.flowRunsRow.func = some 4 := by kernel_rfl
theorem over : Rows.flowRunsRow.holds Try.pinned (OpenSpec.ofChange Rows.flowRunsSpec) :=
  OpenClaim.holds_of_wide 4 Try.f4 rfl rfl rfl rfl rfl rfl rfl ⟨rfl, rfl, rfl, rfl, rfl⟩ rfl rfl rfl rfl rfl named Try.func4 joined
    (of_decide_eq_true (by kernel_rfl)) (by unfold Func.isWrapper; first | (rw [if_pos (by decide +kernel)]; kernel_rfl) | (rw [if_neg (by decide +kernel)]; exact ⟨rfl, rfl⟩))
    (fun os started H enc _ => lifted os started H enc)
end Go.Proofs.Ytlgfbiepbneihaa.flowRuns
namespace Go.Proofs.Ytlgfbiepbneihaa
/-- The row. -/
theorem flowRuns_holds : Rows.FlowRunsSaid := flowRuns.over
#print axioms flowRuns_holds
end Go.Proofs.Ytlgfbiepbneihaa
