/- The row constsKnows, out of its contract. -/
import Derived.Test.YtlgfbiepbneihaaKnJ
import Derived.Test.YtlgfbiepbneihaaVD
import Derived.Test.YtlgfbiepbneihaaHd
import Derived.Test.YtlgfbiepbneihaaKD
import Derived.Test.YtlgfbiepbneihaaRows
namespace Go.Proofs.Ytlgfbiepbneihaa.constsKnows
open Go.ChangeShapes Go.WideShapes Go.ChangeAt Go.RowKit Go.Ab Go.Ab.Try
set_option linter.unusedVariables false
theorem own : ownKnob Try.prog.godebug = none := by kernel_rfl
theorem laidOut : laidOutB Try.prog = true := by kernel_rfl
theorem core : ∀ pvs, FitTs Try.prog [22] pvs → PC Try.prog 8 pvs (.bool true) := by
  intro pvs h
  simp only [FitTs] at h
  obtain ⟨p0, q0, rfl, h0, rfl⟩ := h
  obtain ⟨rows, rfl, _, hr⟩ := h0.slice (es := [.int .i64, .int .i64, .int .i64, .int .i64, .int .u64]) (by kernel_rfl) (by kernel_rfl)
  obtain ⟨code, rfl, hc⟩ := fit_code hr
  exact c8 code hc
set_option maxRecDepth 100000 in
theorem lifted (os : Os) (started : os.Started) (H : Type) (enc : TypeId × Value → H) :
    ReturnsInHanded {} Try.checked os 8 .any (Rows.constsKnowsSpec.pre6 enc Try.prog Try.f8 Rows.constsKnowsRow.domain false) (Rows.constsKnowsSpec.post enc Try.prog Try.f8 false true false false) := by
  refine returnsInHanded_of_change_sized (C := Try.checked) own started (by kernel_rfl) Try.func8
    (ChangeSpec.witness6 (enc := enc) (C := Try.checked) false ⟨#[], #[.slice none 0 0], []⟩ 20 (by kernel_rfl) (by kernel_rfl) (by kernel_rfl) (by kernel_rfl)) ?_
  intro W base args ds gs before hval hW _ _ _
  exact law (ts := [22]) (tb := 4) laidOut Try.params8 (by kernel_rfl) (by rfl) Try.underlying4 rfl (fun ds hl => by
    match ds, hl with
    | [_], _ => rfl) core hval hW
theorem joined : joinedFacts Try.pinned.checked.prog 8 Try.f8 Rows.constsKnowsSpec Rows.constsKnowsRow = true :=
  joined_of enter_is lifts_is make_is (by kernel_rfl) (by kernel_rfl) (by kernel_rfl) rfl rfl (by kernel_rfl)
theorem named : Try.pinned.checked.prog.funcNamed Rows.constsKnowsRow.func = some 8 := by kernel_rfl
theorem over : Rows.constsKnowsRow.holds Try.pinned (OpenSpec.ofChange Rows.constsKnowsSpec) :=
  OpenClaim.holds_of_wide 8 Try.f8 rfl rfl rfl rfl rfl rfl rfl ⟨rfl, rfl, rfl, rfl, rfl⟩ rfl rfl rfl rfl rfl named Try.func8 joined
    (of_decide_eq_true (by kernel_rfl)) (by unfold Func.isWrapper; first | (rw [if_pos (by decide +kernel)]; kernel_rfl) | (rw [if_neg (by decide +kernel)]; exact ⟨rfl, rfl⟩))
    (fun os started H enc _ => lifted os started H enc)
end Go.Proofs.Ytlgfbiepbneihaa.constsKnows
namespace Go.Proofs.Ytlgfbiepbneihaa
/-- The row. -/
theorem constsKnows_holds : Rows.ConstsKnowsSaid := constsKnows.over
#print axioms constsKnows_holds
end Go.Proofs.Ytlgfbiepbneihaa
