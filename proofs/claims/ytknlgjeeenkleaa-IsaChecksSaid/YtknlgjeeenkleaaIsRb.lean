/- The row isaChecks, out of its contract. -/
import Derived.Test.YtknlgjeeenkleaaIsG
import Derived.Test.YtknlgjeeenkleaaHd
import Derived.Test.YtknlgjeeenkleaaE2
import Derived.Test.YtknlgjeeenkleaaRows
namespace Go.Proofs.Ytknlgjeeenkleaa.isaChecks
open Go.ChangeShapes Go.WideShapes Go.ChangeAt Go.RowKit Go.Ab Go.Ab.Try
set_option linter.unusedVariables false
theorem own : ownKnob Try.prog.godebug = none := by kernel_rfl
theorem laidOut : laidOutB Try.prog = true := by kernel_rfl
theorem core : ∀ pvs, FitTs Try.prog [87, 3, 3] pvs → PC Try.prog 14 pvs (.bool true) := by
  intro pvs h
  simp only [FitTs] at h
  obtain ⟨p0, q0, rfl, h0, p1, q1, rfl, h1, p2, q2, rfl, h2, rfl⟩ := h
  obtain ⟨ps0, rfl, g0⟩ := h0.agg (fs := [.int .i64, .int .i64, .int .i64, .int .i64, .int .u64]) (by kernel_rfl) (by kernel_rfl)
  simp only [FitL, Fit] at g0
  obtain ⟨a0, b0, rfl, ⟨op, rfl, wop⟩, a1, b1, rfl, ⟨a, rfl, wa⟩, a2, b2, rfl, ⟨b, rfl, wb⟩, a3, b3, rfl, ⟨c, rfl, wc⟩, a4, b4, rfl, ⟨m, rfl, wm⟩, rfl⟩ := g0
  obtain ⟨r, rfl, wr⟩ := h1.int (k := .i64) (by kernel_rfl) (by kernel_rfl)
  obtain ⟨n, rfl, wn⟩ := h2.int (k := .i64) (by kernel_rfl) (by kernel_rfl)
  exact c14 op a b c m r n (W64.u (u64_of_wf wm))
set_option maxRecDepth 100000 in
theorem lifted (os : Os) (started : os.Started) (H : Type) (enc : TypeId × Value → H) :
    ReturnsInHanded {} Try.checked os 14 .any (Rows.isaChecksSpec.pre6 enc Try.prog Try.f14 Rows.isaChecksRow.domain false) (Rows.isaChecksSpec.post enc Try.prog Try.f14 false true false false) := by
  refine returnsInHanded_of_change_sized (C := Try.checked) own started (by kernel_rfl) Try.func14
    (ChangeSpec.witness6 (enc := enc) (C := Try.checked) false ⟨#[], #[.agg #[.int .i64 0, .int .i64 0, .int .i64 0, .int .i64 0, .int .u64 0], .int .i64 0, .int .i64 0], []⟩ 20 (by kernel_rfl) (by kernel_rfl) (by kernel_rfl) (by kernel_rfl)) ?_
  intro W base args ds gs before hval hW _ _ _
  exact law (ts := [87, 3, 3]) (tb := 4) laidOut Try.params14 (by kernel_rfl) (by rfl) Try.underlying4 rfl (fun ds hl => by
    match ds, hl with
    | [_, _, _], _ => rfl) core hval hW
theorem joined : joinedFacts Try.pinned.checked.prog 14 Try.f14 Rows.isaChecksSpec Rows.isaChecksRow = true :=
  joined_of enter_is lifts_is make_is (by kernel_rfl) (by kernel_rfl) (by kernel_rfl) rfl rfl (by kernel_rfl)
theorem named : Try.pinned.checked.prog.funcNamed Rows.isaChecksRow.func = some 14 := by kernel_rfl
theorem over : Rows.isaChecksRow.holds Try.pinned (OpenSpec.ofChange Rows.isaChecksSpec) :=
  OpenClaim.holds_of_wide 14 Try.f14 rfl rfl rfl rfl rfl rfl rfl ⟨rfl, rfl, rfl, rfl, rfl⟩ rfl rfl rfl rfl rfl named Try.func14 joined
    (of_decide_eq_true (by kernel_rfl)) (by unfold Func.isWrapper; first | (rw [if_pos (by decide +kernel)]; kernel_rfl) | (rw [if_neg (by decide +kernel)]; exact ⟨rfl, rfl⟩))
    (fun os started H enc _ => lifted os started H enc)
end Go.Proofs.Ytknlgjeeenkleaa.isaChecks
namespace Go.Proofs.Ytknlgjeeenkleaa
/-- The row. -/
theorem isaChecks_holds : Rows.IsaChecksSaid := isaChecks.over
#print axioms isaChecks_holds
end Go.Proofs.Ytknlgjeeenkleaa
