/- The row cnfParts, out of its contract. -/
import Derived.Test.YtknlgjeeenkleaaCnI
import Derived.Test.YtknlgjeeenkleaaHd
import Derived.Test.YtknlgjeeenkleaaE2
import Derived.Test.YtknlgjeeenkleaaRows
namespace Go.Proofs.Ytknlgjeeenkleaa.cnfParts
open Go.ChangeShapes Go.WideShapes Go.ChangeAt Go.RowKit Go.Ab Go.Ab.Try
set_option linter.unusedVariables false
theorem own : ownKnob Try.prog.godebug = none := by kernel_rfl
theorem laidOut : laidOutB Try.prog = true := by kernel_rfl
theorem core : ∀ pvs, FitTs Try.prog [3, 111, 5] pvs → PC Try.prog 24 pvs (.bool true) := by
  intro pvs h
  simp only [FitTs] at h
  obtain ⟨p0, q0, rfl, h0, p1, q1, rfl, h1, p2, q2, rfl, h2, rfl⟩ := h
  have hM : maxLen = 9223372036854775807 := by decide
  obtain ⟨vars, rfl, wvars⟩ := h0.int (k := .i64) (by kernel_rfl) (by kernel_rfl)
  obtain ⟨rows, rfl, hlen, hr⟩ := h1.slice (es := [.slice [.int .i64]]) (by kernel_rfl) (by kernel_rfl)
  obtain ⟨l, rfl, hp⟩ := rows_mapP (fun c => [cl false c]) (fun c => (c.length : Int) ≤ 9223372036854775807 ∧ ∀ x ∈ c, I64 x) fun row hh => by
    have := hr row hh
    simp only [FitL, Fit] at this
    obtain ⟨q, qs, rfl, ⟨rows', rfl, hl', hr'⟩, rfl⟩ := this
    obtain ⟨c, rfl, hc⟩ := rows_mapP (fun x : Int => [PV.int .i64 x]) I64 fun row hh => by
      have := hr' row hh
      obtain ⟨q, qs, rfl, ⟨x, rfl, wx⟩, rfl⟩ := this
      exact ⟨x, rfl, i64_of_wf wx⟩
    exact ⟨c, rfl, by simp at hl'; omega, hc⟩
  have hl : Wf l := ⟨by simp at hlen; omega, hp⟩
  obtain ⟨v, rfl, wv⟩ := h2.int (k := .u8) (by kernel_rfl) (by kernel_rfl)
  exact c24 vars l v hl (by simp [Lit.wf, IntKind.min, IntKind.max, IntKind.bits, IntKind.signed] at wv; omega)
set_option maxRecDepth 100000 in
theorem lifted (os : Os) (started : os.Started) (H : Type) (enc : TypeId × Value → H) :
    ReturnsInHanded {} Try.checked os 24 .any (Rows.cnfPartsSpec.pre6 enc Try.prog Try.f24 Rows.cnfPartsRow.domain false) (Rows.cnfPartsSpec.post enc Try.prog Try.f24 false true false false) := by
  refine returnsInHanded_of_change_sized (C := Try.checked) own started (by kernel_rfl) Try.func24
    (ChangeSpec.witness6 (enc := enc) (C := Try.checked) false ⟨#[], #[.int .i64 0, .slice none 0 0, .int .u8 0], []⟩ 20 (by kernel_rfl) (by kernel_rfl) (by kernel_rfl) (by kernel_rfl)) ?_
  intro W base args ds gs before hval hW _ _ _
  exact law (ts := [3, 111, 5]) (tb := 4) laidOut Try.params24 (by kernel_rfl) (by rfl) Try.underlying4 rfl (fun ds hl => by
    match ds, hl with
    | [_, _, _], _ => rfl) core hval hW
theorem joined : joinedFacts Try.pinned.checked.prog 24 Try.f24 Rows.cnfPartsSpec Rows.cnfPartsRow = true :=
  joined_of enter_is lifts_is make_is (by kernel_rfl) (by kernel_rfl) (by kernel_rfl) rfl rfl (by kernel_rfl)
theorem named : Try.pinned.checked.prog.funcNamed Rows.cnfPartsRow.func = some 24 := by kernel_rfl
theorem over : Rows.cnfPartsRow.holds Try.pinned (OpenSpec.ofChange Rows.cnfPartsSpec) :=
  OpenClaim.holds_of_wide 24 Try.f24 rfl rfl rfl rfl rfl rfl rfl ⟨rfl, rfl, rfl, rfl, rfl⟩ rfl rfl rfl rfl rfl named Try.func24 joined
    (of_decide_eq_true (by kernel_rfl)) (by unfold Func.isWrapper; first | (rw [if_pos (by decide +kernel)]; kernel_rfl) | (rw [if_neg (by decide +kernel)]; exact ⟨rfl, rfl⟩))
    (fun os started H enc _ => lifted os started H enc)
end Go.Proofs.Ytknlgjeeenkleaa.cnfParts
namespace Go.Proofs.Ytknlgjeeenkleaa
/-- The row. -/
theorem cnfParts_holds : Rows.CnfPartsSaid := cnfParts.over
#print axioms cnfParts_holds
end Go.Proofs.Ytknlgjeeenkleaa
