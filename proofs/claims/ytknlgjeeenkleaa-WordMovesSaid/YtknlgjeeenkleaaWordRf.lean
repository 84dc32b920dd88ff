/- The row wordMoves, out of its contract. -/
import Derived.Test.YtknlgjeeenkleaaWordH
import Derived.Test.YtknlgjeeenkleaaHd
import Derived.Test.YtknlgjeeenkleaaE2
import Derived.Test.YtknlgjeeenkleaaRows
namespace Go.Proofs.Ytknlgjeeenkleaa.wordMoves
open Go.ChangeShapes Go.WideShapes Go.ChangeAt Go.RowKit Go.Ab Go.Ab.Try
set_option linter.unusedVariables false
theorem own : ownKnob Try.prog.godebug = none := by kernel_rfl
theorem laidOut : laidOutB Try.prog = true := by kernel_rfl
theorem core : ∀ pvs, FitTs Try.prog [3, 44, 5] pvs → PC Try.prog 21 pvs (.bool true) := by
  intro pvs h
  simp only [FitTs] at h
  obtain ⟨p0, q0, rfl, h0, p1, q1, rfl, h1, p2, q2, rfl, h2, rfl⟩ := h
  obtain ⟨w, rfl, ww⟩ := h0.int (k := .i64) (by kernel_rfl) (by kernel_rfl)
  obtain ⟨a, rfl, wa⟩ := h1.int (k := .u64) (by kernel_rfl) (by kernel_rfl)
  obtain ⟨b, rfl, wb⟩ := h2.int (k := .u8) (by kernel_rfl) (by kernel_rfl)
  exact c21 w a b (by simp [Lit.wf, IntKind.min, IntKind.max, IntKind.bits, IntKind.signed] at wb; omega)
set_option maxRecDepth 100000 in
theorem lifted (os : Os) (started : os.Started) (H : Type) (enc : TypeId × Value → H) :
    ReturnsInHanded {} Try.checked os 21 .any (Rows.wordMovesSpec.pre6 enc Try.prog Try.f21 Rows.wordMovesRow.domain false) (Rows.wordMovesSpec.post enc Try.prog Try.f21 false true false false) := by
  refine returnsInHanded_of_change_sized (C := Try.checked) own started (by kernel_rfl) Try.func21
    (ChangeSpec.witness6 (enc := enc) (C := Try.checked) false ⟨#[], #[.int .i64 0, .int .u64 0, .int .u8 0], []⟩ 20 (by kernel_rfl) (by kernel_rfl) (by kernel_rfl) (by kernel_rfl)) ?_
  intro W base args ds gs before hval hW _ _ _
  exact law (ts := [3, 44, 5]) (tb := 4) laidOut Try.params21 (by kernel_rfl) (by rfl) Try.underlying4 rfl (fun ds hl => by
    match ds, hl with
    | [_, _, _], _ => rfl) core hval hW
theorem joined : joinedFacts Try.pinned.checked.prog 21 Try.f21 Rows.wordMovesSpec Rows.wordMovesRow = true :=
  joined_of enter_is lifts_is make_is (by kernel_rfl) (by kernel_rfl) (by kernel_rfl) rfl rfl (by kernel_rfl)
theorem named : Try.pinned.checked.prog.funcNamed Rows.wordMovesRow.func = some 21 := by kernel_rfl
theorem over : Rows.wordMovesRow.holds Try.pinned (OpenSpec.ofChange Rows.wordMovesSpec) :=
  OpenClaim.holds_of_wide 21 Try.f21 rfl rfl rfl rfl rfl rfl rfl ⟨rfl, rfl, rfl, rfl, rfl⟩ rfl rfl rfl rfl rfl named Try.func21 joined
    (of_decide_eq_true (by kernel_rfl)) (by unfold Func.isWrapper; first | (rw [if_pos (by decide +kernel)]; kernel_rfl) | (rw [if_neg (by decide +kernel)]; exact ⟨rfl, rfl⟩))
    (fun os started H enc _ => lifted os started H enc)
end Go.Proofs.Ytknlgjeeenkleaa.wordMoves
namespace Go.Proofs.Ytknlgjeeenkleaa
/-- The row. -/
theorem wordMoves_holds : Rows.WordMovesSaid := wordMoves.over
#print axioms wordMoves_holds
end Go.Proofs.Ytknlgjeeenkleaa
