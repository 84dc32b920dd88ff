/- The row diskLooks, out of its contract. -/
import Derived.Test.YtknlgjeeenkleaaDkH
import Derived.Test.YtknlgjeeenkleaaDM
import Derived.Test.YtknlgjeeenkleaaHd
import Derived.Test.YtknlgjeeenkleaaKD
import Derived.Test.YtknlgjeeenkleaaRows
namespace Go.Proofs.Ytknlgjeeenkleaa.diskLooks
open Go.ChangeShapes Go.WideShapes Go.ChangeAt Go.RowKit Go.Ab Go.Ab.Try
set_option linter.unusedVariables false
theorem own : ownKnob Try.prog.godebug = none := by kernel_rfl
theorem laidOut : laidOutB Try.prog = true := by kernel_rfl
theorem core : ∀ pvs, FitTs Try.prog [43, 45, 3] pvs → PC Try.prog 6 pvs (.bool true) := by
  intro pvs h
  simp only [FitTs] at h
  obtain ⟨p0, q0, rfl, h0, p1, q1, rfl, h1, p2, q2, rfl, h2, rfl⟩ := h
  obtain ⟨ps0, rfl, g0⟩ := h0.agg (fs := [.slice [.int .u64], .slice [.int .i64, .int .u64, .int .i64], .int .i64]) (by kernel_rfl) (by kernel_rfl)
  obtain ⟨D, l, e, hd, _⟩ := fit_dev g0
  obtain ⟨ps1, rfl, g1⟩ := h1.agg (fs := [.int .u64, .int .u64, .int .u64]) (by kernel_rfl) (by kernel_rfl)
  simp only [FitL, Fit] at g1
  obtain ⟨a0, b0, rfl, ⟨b, rfl, wb⟩, a1, b1, rfl, ⟨v, rfl, wv⟩, a2, b2, rfl, ⟨w, rfl, ww⟩, rfl⟩ := g1
  obtain ⟨most, rfl, wm⟩ := h2.int (k := .i64) (by kernel_rfl) (by kernel_rfl)
  rw [hd]; exact c6 D l e b v w most (u64_0 wb)
set_option maxRecDepth 100000 in
theorem lifted (os : Os) (started : os.Started) (H : Type) (enc : TypeId × Value → H) :
    ReturnsInHanded {} Try.checked os 6 .any (Rows.diskLooksSpec.pre6 enc Try.prog Try.f6 Rows.diskLooksRow.domain false) (Rows.diskLooksSpec.post enc Try.prog Try.f6 false true false false) := by
  refine returnsInHanded_of_change_sized (C := Try.checked) own started (by kernel_rfl) Try.func6
    (ChangeSpec.witness6 (enc := enc) (C := Try.checked) false ⟨#[], #[.agg #[.slice none 0 0, .slice none 0 0, .int .i64 0], .agg #[.int .u64 0, .int .u64 0, .int .u64 0], .int .i64 0], []⟩ 20 (by kernel_rfl) (by kernel_rfl) (by kernel_rfl) (by kernel_rfl)) ?_
  intro W base args ds gs before hval hW _ _ _
  exact law (ts := [43, 45, 3]) (tb := 4) laidOut Try.params6 (by kernel_rfl) (by rfl) Try.underlying4 rfl (fun ds hl => by
    match ds, hl with
    | [_, _, _], _ => rfl) core hval hW
theorem joined : joinedFacts Try.pinned.checked.prog 6 Try.f6 Rows.diskLooksSpec Rows.diskLooksRow = true :=
  joined_of enter_is lifts_is make_is (by kernel_rfl) (by kernel_rfl) (by kernel_rfl) rfl rfl (by kernel_rfl)
theorem named : Try.pinned.checked.prog.funcNamed Rows.diskLooksRow.func = some 6 := by kernel_rfl
theorem over : Rows.diskLooksRow.holds Try.pinned (OpenSpec.ofChange Rows.diskLooksSpec) :=
  OpenClaim.holds_of_wide 6 Try.f6 rfl rfl rfl rfl rfl rfl rfl ⟨rfl, rfl, rfl, rfl, rfl⟩ rfl rfl rfl rfl rfl named Try.func6 joined
    (of_decide_eq_true (by kernel_rfl)) (by unfold Func.isWrapper; first | (rw [if_pos (by decide +kernel)]; kernel_rfl) | (rw [if_neg (by decide +kernel)]; exact ⟨rfl, rfl⟩))
    (fun os started H enc _ => lifted os started H enc)
end Go.Proofs.Ytknlgjeeenkleaa.diskLooks
namespace Go.Proofs.Ytknlgjeeenkleaa
/-- The row. -/
theorem diskLooks_holds : Rows.DiskLooksSaid := diskLooks.over
#print axioms diskLooks_holds
end Go.Proofs.Ytknlgjeeenkleaa
