/- The row, out of its contract. -/
import Derived.Test.YtedgmllonkakjaaLitF
import Derived.Test.YtedgmllonkakjaaE2
import Derived.Test.YtedgmllonkakjaaRows
namespace Go.Proofs.Ytedgmllonkakjaa.litBack
open Go.ChangeShapes Go.WideShapes Go.ChangeAt Go.RowKit Go.Ab Go.Ab.Try
set_option linter.unusedVariables false
theorem own : ownKnob Try.prog.godebug = none := by kernel_rfl
theorem laidOut : laidOutB Try.prog = true := by kernel_rfl
theorem core : ∀ pvs, FitTs Try.prog [3, 4, 49] pvs → PC Try.prog 11 pvs (.bool true) := by
  intro pvs h
  simp only [FitTs] at h
  obtain ⟨p0, q0, rfl, h0, p1, q1, rfl, h1, p2, q2, rfl, h2, rfl⟩ := h
  obtain ⟨v, rfl, wv⟩ := h0.int (k := .i64) (by kernel_rfl) (by kernel_rfl)
  obtain ⟨neg, rfl⟩ := h1.bool (by kernel_rfl) (by kernel_rfl)
  obtain ⟨rows, rfl, _, hr⟩ := h2.slice (es := [.bool]) (by kernel_rfl) (by kernel_rfl)
  obtain ⟨m, rfl⟩ := rows_map (fun x : Bool => [PV.bool x]) fun row hh => by
    have := hr row hh
    simp only [FitL, Fit] at this
    obtain ⟨q, qs, rfl, ⟨b, rfl⟩, rfl⟩ := this
    exact ⟨b, rfl⟩
  exact c11 v neg false m (i64_of_wf wv)
set_option maxRecDepth 100000 in
theorem lifted (os : Os) (started : os.Started) (H : Type) (enc : TypeId × Value → H) :
    ReturnsInHanded {} Try.checked os 11 .any (Rows.litBackSpec.pre6 enc Try.prog Try.f11 Rows.litBackRow.domain false) (Rows.litBackSpec.post enc Try.prog Try.f11 false true false false) := by
  refine returnsInHanded_of_change_sized (C := Try.checked) own started (by kernel_rfl) Try.func11
    (ChangeSpec.witness6 (enc := enc) (C := Try.checked) false ⟨#[], #[.int .i64 0, .bool false, .slice none 0 0], []⟩ 8 (by kernel_rfl) (by kernel_rfl) (by kernel_rfl) (by kernel_rfl)) ?_
  intro W base args ds gs before hval hW _ _ _
  exact law (ts := [3, 4, 49]) (tb := 4) laidOut Try.params11 (by kernel_rfl) (by rfl) Try.underlying4 rfl (fun ds hl => by
    match ds, hl with
    | [_, _, _], _ => rfl) core hval hW
theorem over : Rows.litBackRow.holds Try.pinned (OpenSpec.ofChange Rows.litBackSpec) :=
  OpenClaim.holds_of_wide 11 Try.f11 rfl rfl rfl rfl rfl rfl rfl ⟨rfl, rfl, rfl, rfl, rfl⟩ rfl rfl rfl rfl rfl (by kernel_rfl) Try.func11 (by kernel_rfl)
    (of_decide_eq_true (by kernel_rfl)) (by unfold Func.isWrapper; first | (rw [if_pos (by decide +kernel)]; kernel_rfl) | (rw [if_neg (by decide +kernel)]; exact ⟨rfl, rfl⟩))
    (fun os started H enc _ => lifted os started H enc)
end Go.Proofs.Ytedgmllonkakjaa.litBack
namespace Go.Proofs.Ytedgmllonkakjaa
/-- The row. -/
theorem litBack_holds : Rows.LitBackSaid := litBack.over
#print axioms litBack_holds
end Go.Proofs.Ytedgmllonkakjaa
