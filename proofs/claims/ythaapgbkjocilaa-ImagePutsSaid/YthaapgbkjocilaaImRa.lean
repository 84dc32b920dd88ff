/- The row imagePuts, out of its contract. -/
import Derived.Test.YthaapgbkjocilaaImM
import Derived.Test.YthaapgbkjocilaaMH
import Derived.Test.YthaapgbkjocilaaHd
import Derived.Test.YthaapgbkjocilaaKD
import Derived.Test.YthaapgbkjocilaaRows
namespace Go.Proofs.Ythaapgbkjocilaa.imagePuts
open Go.ChangeShapes Go.WideShapes Go.ChangeAt Go.RowKit Go.Ab Go.Ab.Try
set_option linter.unusedVariables false
theorem own : ownKnob Try.prog.godebug = none := by kernel_rfl
theorem laidOut : laidOutB Try.prog = true := by kernel_rfl
theorem core : ∀ pvs, FitTs Try.prog [26, 26] pvs → PC Try.prog 3 pvs (.bool true) := by
  intro pvs h
  simp only [FitTs] at h
  obtain ⟨p0, q0, rfl, h0, p1, q1, rfl, h1, rfl⟩ := h
  obtain ⟨ps, rfl, g⟩ := h0.agg (fs := [.int .i64, .int .i64, .slice [.int .u64], .slice [.int .i64, .int .i64, .int .i64, .int .i64, .int .u64], .slice [.int .i64, .int .i64, .int .i64, .int .i64, .int .u64], .slice [.int .i64, .int .i64, .int .i64, .int .i64, .int .u64]]) (by kernel_rfl) (by kernel_rfl)
  obtain ⟨qs, rfl, k⟩ := h1.agg (fs := [.int .i64, .int .i64, .slice [.int .u64], .slice [.int .i64, .int .i64, .int .i64, .int .i64, .int .u64], .slice [.int .i64, .int .i64, .int .i64, .int .i64, .int .u64], .slice [.int .i64, .int .i64, .int .i64, .int .i64, .int .u64]]) (by kernel_rfl) (by kernel_rfl)
  obtain ⟨p, hp, wp⟩ := fit_pg g
  obtain ⟨q, hq, wq⟩ := fit_pg k
  rw [hp, hq]; exact c3 p q wp wq
set_option maxRecDepth 100000 in
theorem lifted (os : Os) (started : os.Started) (H : Type) (enc : TypeId × Value → H) :
    ReturnsInHanded {} Try.checked os 3 .any (Rows.imagePutsSpec.pre6 enc Try.prog Try.f3 Rows.imagePutsRow.domain false) (Rows.imagePutsSpec.post enc Try.prog Try.f3 false true false false) := by
  refine returnsInHanded_of_change_sized (C := Try.checked) own started (by kernel_rfl) Try.func3
    (ChangeSpec.witness6 (enc := enc) (C := Try.checked) false ⟨#[], #[.agg #[.int .i64 0, .int .i64 0, .slice none 0 0, .slice none 0 0, .slice none 0 0, .slice none 0 0], .agg #[.int .i64 0, .int .i64 0, .slice none 0 0, .slice none 0 0, .slice none 0 0, .slice none 0 0]], []⟩ 20 (by kernel_rfl) (by kernel_rfl) (by kernel_rfl) (by kernel_rfl)) ?_
  intro W base args ds gs before hval hW _ _ _
  exact law (ts := [26, 26]) (tb := 4) laidOut Try.params3 (by kernel_rfl) (by rfl) Try.underlying4 rfl (fun ds hl => by
    match ds, hl with
    | [_, _], _ => rfl) core (fun x hx => by cases hx) hval hW
theorem joined : joinedFacts Try.pinned.checked.prog 3 Try.f3 Rows.imagePutsSpec Rows.imagePutsRow = true :=
  joined_of enter_is lifts_is make_is (by kernel_rfl) (by kernel_rfl) (by kernel_rfl) rfl rfl (by kernel_rfl)
theorem named : Try.pinned.checked.prog.funcNamed Rows.imagePutsRow.func = some 3 := by kernel_rfl
theorem over : Rows.imagePutsRow.holds Try.pinned (OpenSpec.ofChange Rows.imagePutsSpec) :=
  OpenClaim.holds_of_wide 3 Try.f3 rfl rfl rfl rfl rfl rfl rfl ⟨rfl, rfl, rfl, rfl, rfl⟩ rfl rfl rfl rfl rfl named Try.func3 joined
    (of_decide_eq_true (by kernel_rfl)) (by unfold Func.isWrapper; first | (rw [if_pos (by decide +kernel)]; kernel_rfl) | (rw [if_neg (by decide +kernel)]; exact ⟨rfl, rfl⟩))
    (fun os started H enc _ => lifted os started H enc)
end Go.Proofs.Ythaapgbkjocilaa.imagePuts
namespace Go.Proofs.Ythaapgbkjocilaa
/-- The row. -/
theorem imagePuts_holds : Rows.ImagePutsSaid := imagePuts.over
#print axioms imagePuts_holds
end Go.Proofs.Ythaapgbkjocilaa
