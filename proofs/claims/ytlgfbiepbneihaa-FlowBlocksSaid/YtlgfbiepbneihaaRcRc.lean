/- The row flowBlocks, out of its contract. -/
import Derived.Test.YtlgfbiepbneihaaRcN
import Derived.Test.YtlgfbiepbneihaaVD
import Derived.Test.YtlgfbiepbneihaaHd
import Derived.Test.YtlgfbiepbneihaaKD
import Derived.Test.YtlgfbiepbneihaaRows
namespace Go.Proofs.Ytlgfbiepbneihaa.flowBlocks
open Go.ChangeShapes Go.WideShapes Go.ChangeAt Go.RowKit Go.Ab Go.Ab.Try
set_option linter.unusedVariables false
theorem own : ownKnob Try.prog.godebug = none := by kernel_rfl
theorem laidOut : laidOutB Try.prog = true := by kernel_rfl
theorem core : ∀ pvs, FitTs Try.prog [22] pvs → PC Try.prog 5 pvs (.bool true) := by
  intro pvs h
  simp only [FitTs] at h
  obtain ⟨p0, q0, rfl, h0, rfl⟩ := h
  obtain ⟨rows, rfl, _, hr⟩ := h0.slice (es := [.int .i64, .int .i64, .int .i64, .int .i64, .int .u64]) (by kernel_rfl) (by kernel_rfl)
  obtain ⟨code, rfl, hc⟩ := fit_code hr
  exact c5 code hc
set_option maxRecDepth 100000 in
theorem lifted (os : Os) (started : os.Started) (H : Type) (enc : TypeId × Value → H) :
    ReturnsInHanded {} Try.checked os 5 .any (Rows.flowBlocksSpec.pre6 enc Try.prog Try.f5 Rows.flowBlocksRow.domain false) (Rows.flowBlocksSpec.post enc Try.prog Try.f5 false true false false) := by
  refine returnsInHanded_of_change_sized (C := Try.checked) own started (by kernel_rfl) Try.func5
    (ChangeSpec.witness6 (enc := enc) (C := Try.checked) false ⟨#[], #[.slice none 0 0], []⟩ 20 (by kernel_rfl) (by kernel_rfl) (by kernel_rfl) (by kernel_rfl)) ?_
  intro W base args ds gs before hval hW _ _ _
  exact law (ts := [22]) (tb := 4) laidOut Try.params5 (by kernel_rfl) (by rfl) Try.underlying4 rfl (fun ds hl => by
    match ds, hl with
    | [_], _ => rfl) core (fun x hx => by cases hx) hval hW
theorem joined : joinedFacts Try.pinned.checked.prog 5 Try.f5 Rows.flowBlocksSpec Rows.flowBlocksRow = true :=
  joined_of enter_is lifts_is make_is (by kernel_rfl) (by kernel_rfl) (by kernel_rfl) rfl rfl (by kernel_rfl)
theorem named : Try.pinned.checked.prog.funcNamed Rows.flowBlocksRow.func = some 5 := by kernel_rfl
theorem over : Rows.flowBlocksRow.holds Try.pinned (OpenSpec.ofChange Rows.flowBlocksSpec) :=
  OpenClaim.holds_of_wide 5 Try.f5 rfl rfl rfl rfl rfl rfl rfl ⟨rfl, rfl, rfl, rfl, rfl⟩ rfl rfl rfl rfl rfl named Try.func5 joined
    (of_decide_eq_true (by kernel_rfl)) (by unfold Func.isWrapper; first | (rw [if_pos (by decide +kernel)]; kernel_rfl) | (rw [if_neg (by decide +kernel)]; exact ⟨rfl, rfl⟩))
    (fun os started H enc _ => lifted os started H enc)
end Go.Proofs.Ytlgfbiepbneihaa.flowBlocks
namespace Go.Proofs.Ytlgfbiepbneihaa
/-- The row. -/
theorem flowBlocks_holds : Rows.FlowBlocksSaid := flowBlocks.over
#print axioms flowBlocks_holds
end Go.Proofs.Ytlgfbiepbneihaa
