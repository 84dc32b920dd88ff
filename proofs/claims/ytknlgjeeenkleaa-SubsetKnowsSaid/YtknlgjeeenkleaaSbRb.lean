/- The row subsetKnows, out of its contract. -/
import Derived.Test.YtknlgjeeenkleaaSbI
import Derived.Test.YtknlgjeeenkleaaHd
import Derived.Test.YtknlgjeeenkleaaKD
import Derived.Test.YtknlgjeeenkleaaRows
namespace Go.Proofs.Ytknlgjeeenkleaa.subsetKnows
open Go.ChangeShapes Go.WideShapes Go.ChangeAt Go.RowKit Go.Ab Go.Ab.Try
set_option linter.unusedVariables false
theorem own : ownKnob Try.prog.godebug = none := by kernel_rfl
theorem laidOut : laidOutB Try.prog = true := by kernel_rfl
theorem core : ∀ pvs, FitTs Try.prog [40, 55] pvs → PC Try.prog 9 pvs (.bool true) := by
  intro pvs h
  simp only [FitTs] at h
  obtain ⟨p0, q0, rfl, h0, p1, q1, rfl, h1, rfl⟩ := h
  obtain ⟨rows, rfl, _, hr⟩ := h0.slice (es := [.int .u64]) (by kernel_rfl) (by kernel_rfl)
  obtain ⟨D, rfl⟩ := rows_map wdR fun row hh => by
    have := hr row hh
    simp only [FitL, Fit] at this
    obtain ⟨q, qs, rfl, ⟨x, rfl, _⟩, rfl⟩ := this
    exact ⟨x, rfl⟩
  obtain ⟨rows2, rfl, _, hr2⟩ := h1.slice (es := [.int .i64, .int .u64, .int .u64]) (by kernel_rfl) (by kernel_rfl)
  obtain ⟨l, rfl, hl⟩ := rows_mapP ddR (fun x => 0 ≤ x.2.1) fun row hh => by
    have := hr2 row hh
    simp only [FitL, Fit] at this
    obtain ⟨q, qs, rfl, ⟨x, rfl, wx⟩, q', qs', rfl, ⟨y, rfl, wy⟩, q'', qs'', rfl, ⟨z, rfl, wz⟩, rfl⟩ := this
    exact ⟨(x, y, z), rfl, u64_0 wy⟩
  exact c9 D l hl
set_option maxRecDepth 100000 in
theorem lifted (os : Os) (started : os.Started) (H : Type) (enc : TypeId × Value → H) :
    ReturnsInHanded {} Try.checked os 9 .any (Rows.subsetKnowsSpec.pre6 enc Try.prog Try.f9 Rows.subsetKnowsRow.domain false) (Rows.subsetKnowsSpec.post enc Try.prog Try.f9 false true false false) := by
  refine returnsInHanded_of_change_sized (C := Try.checked) own started (by kernel_rfl) Try.func9
    (ChangeSpec.witness6 (enc := enc) (C := Try.checked) false ⟨#[], #[.slice none 0 0, .slice none 0 0], []⟩ 20 (by kernel_rfl) (by kernel_rfl) (by kernel_rfl) (by kernel_rfl)) ?_
  intro W base args ds gs before hval hW _ _ _
  exact law (ts := [40, 55]) (tb := 4) laidOut Try.params9 (by kernel_rfl) (by rfl) Try.underlying4 rfl (fun ds hl => by
    match ds, hl with
    | [_, _], _ => rfl) core hval hW
theorem joined : joinedFacts Try.pinned.checked.prog 9 Try.f9 Rows.subsetKnowsSpec Rows.subsetKnowsRow = true :=
  joined_of enter_is lifts_is make_is (by kernel_rfl) (by kernel_rfl) (by kernel_rfl) rfl rfl (by kernel_rfl)
theorem named : Try.pinned.checked.prog.funcNamed Rows.subsetKnowsRow.func = some 9 := by kernel_rfl
theorem over : Rows.subsetKnowsRow.holds Try.pinned (OpenSpec.ofChange Rows.subsetKnowsSpec) :=
  OpenClaim.holds_of_wide 9 Try.f9 rfl rfl rfl rfl rfl rfl rfl ⟨rfl, rfl, rfl, rfl, rfl⟩ rfl rfl rfl rfl rfl named Try.func9 joined
    (of_decide_eq_true (by kernel_rfl)) (by unfold Func.isWrapper; first | (rw [if_pos (by decide +kernel)]; kernel_rfl) | (rw [if_neg (by decide +kernel)]; exact ⟨rfl, rfl⟩))
    (fun os started H enc _ => lifted os started H enc)
end Go.Proofs.Ytknlgjeeenkleaa.subsetKnows
namespace Go.Proofs.Ytknlgjeeenkleaa
/-- The row. -/
theorem subsetKnows_holds : Rows.SubsetKnowsSaid := subsetKnows.over
#print axioms subsetKnows_holds
end Go.Proofs.Ytknlgjeeenkleaa
