/- The row isaLonger, out of its contract. -/
import Derived.Test.YtknlgjeeenkleaaIsG
import Derived.Test.YtknlgjeeenkleaaHd
import Derived.Test.YtknlgjeeenkleaaE2
import Derived.Test.YtknlgjeeenkleaaRows
namespace Go.Proofs.Ytknlgjeeenkleaa.isaLonger
open Go.ChangeShapes Go.WideShapes Go.ChangeAt Go.RowKit Go.Ab Go.Ab.Try
set_option linter.unusedVariables false
theorem own : ownKnob Try.prog.godebug = none := by kernel_rfl
theorem laidOut : laidOutB Try.prog = true := by kernel_rfl
theorem core : ∀ pvs, FitTs Try.prog [87, 3, 92] pvs → PC Try.prog 15 pvs (.bool true) := by
  intro pvs h
  simp only [FitTs] at h
  obtain ⟨p0, q0, rfl, h0, p1, q1, rfl, h1, p2, q2, rfl, h2, rfl⟩ := h
  obtain ⟨ps0, rfl, g0⟩ := h0.agg (fs := [.int .i64, .int .i64, .int .i64, .int .i64, .int .u64]) (by kernel_rfl) (by kernel_rfl)
  simp only [FitL, Fit] at g0
  obtain ⟨a0, b0, rfl, ⟨op, rfl, wop⟩, a1, b1, rfl, ⟨a, rfl, wa⟩, a2, b2, rfl, ⟨b, rfl, wb⟩, a3, b3, rfl, ⟨c, rfl, wc⟩, a4, b4, rfl, ⟨m, rfl, wm⟩, rfl⟩ := g0
  obtain ⟨r, rfl, wr⟩ := h1.int (k := .i64) (by kernel_rfl) (by kernel_rfl)
  obtain ⟨ps2, rfl, g2⟩ := h2.agg (fs := [.int .u16, .int .u16]) (by kernel_rfl) (by kernel_rfl)
  simp only [FitL, Fit] at g2
  obtain ⟨a0, b0, rfl, ⟨x, rfl, wx⟩, a1, b1, rfl, ⟨y, rfl, wy⟩, rfl⟩ := g2
  exact c15 op a b c m r x y (W64.u (u64_of_wf wm)) (by simp [Lit.wf, IntKind.min, IntKind.max, IntKind.bits, IntKind.signed] at wx; omega) (by simp [Lit.wf, IntKind.min, IntKind.max, IntKind.bits, IntKind.signed] at wy; omega)
set_option maxRecDepth 100000 in
theorem lifted (os : Os) (started : os.Started) (H : Type) (enc : TypeId × Value → H) :
    ReturnsInHanded {} Try.checked os 15 .any (Rows.isaLongerSpec.pre6 enc Try.prog Try.f15 Rows.isaLongerRow.domain false) (Rows.isaLongerSpec.post enc Try.prog Try.f15 false true false false) := by
  refine returnsInHanded_of_change_sized (C := Try.checked) own started (by kernel_rfl) Try.func15
    (ChangeSpec.witness6 (enc := enc) (C := Try.checked) false ⟨#[], #[.agg #[.int .i64 0, .int .i64 0, .int .i64 0, .int .i64 0, .int .u64 0], .int .i64 0, .agg #[.int .u16 0, .int .u16 0]], []⟩ 20 (by kernel_rfl) (by kernel_rfl) (by kernel_rfl) (by kernel_rfl)) ?_
  intro W base args ds gs before hval hW _ _ _
  exact law (ts := [87, 3, 92]) (tb := 4) laidOut Try.params15 (by kernel_rfl) (by rfl) Try.underlying4 rfl (fun ds hl => by
    match ds, hl with
    | [_, _, _], _ => rfl) core hval hW
theorem joined : joinedFacts Try.pinned.checked.prog 15 Try.f15 Rows.isaLongerSpec Rows.isaLongerRow = true :=
  joined_of enter_is lifts_is make_is (by kernel_rfl) (by kernel_rfl) (by kernel_rfl) rfl rfl (by kernel_rfl)
theorem named : Try.pinned.checked.prog.funcNamed Rows.isaLongerRow.func = some 15 := by kernel_rfl
theorem over : Rows.isaLongerRow.holds Try.pinned (OpenSpec.ofChange Rows.isaLongerSpec) :=
  OpenClaim.holds_of_wide 15 Try.f15 rfl rfl rfl rfl rfl rfl rfl ⟨rfl, rfl, rfl, rfl, rfl⟩ rfl rfl rfl rfl rfl named Try.func15 joined
    (of_decide_eq_true (by kernel_rfl)) (by unfold Func.isWrapper; first | (rw [if_pos (by decide +kernel)]; kernel_rfl) | (rw [if_neg (by decide +kernel)]; exact ⟨rfl, rfl⟩))
    (fun os started H enc _ => lifted os started H enc)
end Go.Proofs.Ytknlgjeeenkleaa.isaLonger
namespace Go.Proofs.Ytknlgjeeenkleaa
/-- The row. -/
theorem isaLonger_holds : Rows.IsaLongerSaid := isaLonger.over
#print axioms isaLonger_holds
end Go.Proofs.Ytknlgjeeenkleaa
