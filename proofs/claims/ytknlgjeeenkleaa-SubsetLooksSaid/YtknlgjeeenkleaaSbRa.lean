/- The row subsetLooks, out of its contract. -/
import Derived.Test.YtknlgjeeenkleaaSbH
import Derived.Test.YtknlgjeeenkleaaDM
import Derived.Test.YtknlgjeeenkleaaHd
import Derived.Test.YtknlgjeeenkleaaKD
import Derived.Test.YtknlgjeeenkleaaRows
namespace Go.Proofs.Ytknlgjeeenkleaa.subsetLooks
open Go.ChangeShapes Go.WideShapes Go.ChangeAt Go.RowKit Go.Ab Go.Ab.Try
set_option linter.unusedVariables false
theorem own : ownKnob Try.prog.godebug = none := by kernel_rfl
theorem laidOut : laidOutB Try.prog = true := by kernel_rfl
theorem core : ∀ pvs, FitTs Try.prog [43, 3] pvs → PC Try.prog 8 pvs (.bool true) := by
  intro pvs h
  simp only [FitTs] at h
  obtain ⟨p0, q0, rfl, h0, p1, q1, rfl, h1, rfl⟩ := h
  obtain ⟨ps0, rfl, g0⟩ := h0.agg (fs := [.slice [.int .u64], .slice [.int .i64, .int .u64, .int .i64], .int .i64]) (by kernel_rfl) (by kernel_rfl)
  obtain ⟨D, l, e, hd, _, hl, _⟩ := fit_dev g0
  obtain ⟨m, rfl, wm⟩ := h1.int (k := .i64) (by kernel_rfl) (by kernel_rfl)
  rw [hd]; exact c8 D l e m (fun p hp => (hl p hp).2.2)
set_option maxRecDepth 100000 in
theorem lifted (os : Os) (started : os.Started) (H : Type) (enc : TypeId × Value → H) :
    ReturnsInHanded {} Try.checked os 8 .any (Rows.subsetLooksSpec.pre6 enc Try.prog Try.f8 Rows.subsetLooksRow.domain false) (Rows.subsetLooksSpec.post enc Try.prog Try.f8 false true false false) := by
  refine returnsInHanded_of_change_sized (C := Try.checked) own started (by kernel_rfl) Try.func8
    (ChangeSpec.witness6 (enc := enc) (C := Try.checked) false ⟨#[], #[.agg #[.slice none 0 0, .slice none 0 0, .int .i64 0], .int .i64 0], []⟩ 20 (by kernel_rfl) (by kernel_rfl) (by kernel_rfl) (by kernel_rfl)) ?_
  intro W base args ds gs before hval hW _ _ _
  exact law (ts := [43, 3]) (tb := 4) laidOut Try.params8 (by kernel_rfl) (by rfl) Try.underlying4 rfl (fun ds hl => by
    match ds, hl with
    | [_, _], _ => rfl) core hval hW
theorem joined : joinedFacts Try.pinned.checked.prog 8 Try.f8 Rows.subsetLooksSpec Rows.subsetLooksRow = true :=
  joined_of enter_is lifts_is make_is (by kernel_rfl) (by kernel_rfl) (by kernel_rfl) rfl rfl (by kernel_rfl)
theorem named : Try.pinned.checked.prog.funcNamed Rows.subsetLooksRow.func = some 8 := by kernel_rfl
theorem over : Rows.subsetLooksRow.holds Try.pinned (OpenSpec.ofChange Rows.subsetLooksSpec) :=
  OpenClaim.holds_of_wide 8 Try.f8 rfl rfl rfl rfl rfl rfl rfl ⟨rfl, rfl, rfl, rfl, rfl⟩ rfl rfl rfl rfl rfl named Try.func8 joined
    (of_decide_eq_true (by kernel_rfl)) (by unfold Func.isWrapper; first | (rw [if_pos (by decide +kernel)]; kernel_rfl) | (rw [if_neg (by decide +kernel)]; exact ⟨rfl, rfl⟩))
    (fun os started H enc _ => lifted os started H enc)
end Go.Proofs.Ytknlgjeeenkleaa.subsetLooks
namespace Go.Proofs.Ytknlgjeeenkleaa
/-- The row. -/
theorem subsetLooks_holds : Rows.SubsetLooksSaid := subsetLooks.over
#print axioms subsetLooks_holds
end Go.Proofs.Ytknlgjeeenkleaa
