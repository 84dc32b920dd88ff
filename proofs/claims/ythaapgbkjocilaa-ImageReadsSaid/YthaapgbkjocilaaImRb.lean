/- The row imageReads, out of its contract. -/
import Derived.Test.YthaapgbkjocilaaImN
import Derived.Test.YthaapgbkjocilaaMH
import Derived.Test.YthaapgbkjocilaaHd
import Derived.Test.YthaapgbkjocilaaKD
import Derived.Test.YthaapgbkjocilaaRows
namespace Go.Proofs.Ythaapgbkjocilaa.imageReads
open Go.ChangeShapes Go.WideShapes Go.ChangeAt Go.RowKit Go.Ab Go.Ab.Try
set_option linter.unusedVariables false
theorem own : ownKnob Try.prog.godebug = none := by kernel_rfl
theorem laidOut : laidOutB Try.prog = true := by kernel_rfl
theorem core : ∀ pvs, FitTs Try.prog [9] pvs → PC Try.prog 4 pvs (.bool true) := by
  intro pvs h
  simp only [FitTs] at h
  obtain ⟨p0, q0, rfl, h0, rfl⟩ := h
  obtain ⟨s, rfl, _⟩ := h0.str (by kernel_rfl) (by kernel_rfl)
  rw [← strOf_bytes s]; exact c4 (Go.Ab.bytes s) (bytes_ok s)
set_option maxRecDepth 100000 in
theorem lifted (os : Os) (started : os.Started) (H : Type) (enc : TypeId × Value → H) :
    ReturnsInHanded {} Try.checked os 4 .any (Rows.imageReadsSpec.pre6 enc Try.prog Try.f4 Rows.imageReadsRow.domain false) (Rows.imageReadsSpec.post enc Try.prog Try.f4 false true false false) := by
  refine returnsInHanded_of_change_sized (C := Try.checked) own started (by kernel_rfl) Try.func4
    (ChangeSpec.witness6 (enc := enc) (C := Try.checked) false ⟨#[], #[.string ⟨#[]⟩], []⟩ 20 (by kernel_rfl) (by kernel_rfl) (by kernel_rfl) (by kernel_rfl)) ?_
  intro W base args ds gs before hval hW _ _ _
  exact law (ts := [9]) (tb := 4) laidOut Try.params4 (by kernel_rfl) (by rfl) Try.underlying4 rfl (fun ds hl => by
    match ds, hl with
    | [_], _ => rfl) core (fun x hx => by cases hx) hval hW
theorem joined : joinedFacts Try.pinned.checked.prog 4 Try.f4 Rows.imageReadsSpec Rows.imageReadsRow = true :=
  joined_of enter_is lifts_is make_is (by kernel_rfl) (by kernel_rfl) (by kernel_rfl) rfl rfl (by kernel_rfl)
theorem named : Try.pinned.checked.prog.funcNamed Rows.imageReadsRow.func = some 4 := by kernel_rfl
theorem over : Rows.imageReadsRow.holds Try.pinned (OpenSpec.ofChange Rows.imageReadsSpec) :=
  OpenClaim.holds_of_wide 4 Try.f4 rfl rfl rfl rfl rfl rfl rfl ⟨rfl, rfl, rfl, rfl, rfl⟩ rfl rfl rfl rfl rfl named Try.func4 joined
    (of_decide_eq_true (by kernel_rfl)) (by unfold Func.isWrapper; first | (rw [if_pos (by decide +kernel)]; kernel_rfl) | (rw [if_neg (by decide +kernel)]; exact ⟨rfl, rfl⟩))
    (fun os started H enc _ => lifted os started H enc)
end Go.Proofs.Ythaapgbkjocilaa.imageReads
namespace Go.Proofs.Ythaapgbkjocilaa
/-- The row. -/
theorem imageReads_holds : Rows.ImageReadsSaid := imageReads.over
#print axioms imageReads_holds
end Go.Proofs.Ythaapgbkjocilaa
