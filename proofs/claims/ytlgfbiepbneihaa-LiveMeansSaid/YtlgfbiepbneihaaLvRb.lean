/- The row liveMeans, out of its contract. -/
import Derived.Test.YtlgfbiepbneihaaLvK
import Derived.Test.YtlgfbiepbneihaaVD
import Derived.Test.YtlgfbiepbneihaaHd
import Derived.Test.YtlgfbiepbneihaaKD
import Derived.Test.YtlgfbiepbneihaaRows
namespace Go.Proofs.Ytlgfbiepbneihaa.liveMeans
open Go.ChangeShapes Go.WideShapes Go.ChangeAt Go.RowKit Go.Ab Go.Ab.Try
set_option linter.unusedVariables false
theorem own : ownKnob Try.prog.godebug = none := by kernel_rfl
theorem laidOut : laidOutB Try.prog = true := by kernel_rfl
theorem core : ∀ pvs, FitTs Try.prog [41, 60] pvs → PC Try.prog 7 pvs (.bool true) := by
  intro pvs h
  simp only [FitTs] at h
  obtain ⟨p0, q0, rfl, h0, p1, q1, rfl, h1, rfl⟩ := h
  obtain ⟨ps, rfl, g⟩ := h0.agg (fs := [.slice [.int .i64, .int .i64, .int .i64, .int .i64, .int .u64], .slice [.int .u8], .slice [.int .u64], .slice [.int .i64, .int .u64, .int .i64], .int .i64, .int .i64, .int .i64, .int .i64]) (by kernel_rfl) (by kernel_rfl)
  obtain ⟨code, inp, D, l, e, n, fuel, most, hp, hc, hi, hD, hl⟩ := fit_play g
  obtain ⟨ps1, rfl, g1⟩ := h1.agg (fs := [.int .u8, .int .u8, .int .u64]) (by kernel_rfl) (by kernel_rfl)
  simp only [FitL, Fit] at g1
  obtain ⟨_, _, rfl, ⟨k, rfl, wk⟩, _, _, rfl, ⟨r, rfl, wr⟩, _, _, rfl, ⟨x, rfl, wx⟩, rfl⟩ := g1
  rw [hp]; exact c7 code inp D l e n fuel most k r x hc hi hD hl (u8_of_wf wk) (u8_of_wf wr) (W64.u (u64_of_wf wx))
set_option maxRecDepth 100000 in
theorem lifted (os : Os) (started : os.Started) (H : Type) (enc : TypeId × Value → H) :
    ReturnsInHanded {} Try.checked os 7 .any (Rows.liveMeansSpec.pre6 enc Try.prog Try.f7 Rows.liveMeansRow.domain false) (Rows.liveMeansSpec.post enc Try.prog Try.f7 false true false false) := by
  refine returnsInHanded_of_change_sized (C := Try.checked) own started (by kernel_rfl) Try.func7
    (ChangeSpec.witness6 (enc := enc) (C := Try.checked) false ⟨#[], #[.agg #[.slice none 0 0, .slice none 0 0, .slice none 0 0, .slice none 0 0, .int .i64 0, .int .i64 0, .int .i64 0, .int .i64 0], .agg #[.int .u8 0, .int .u8 0, .int .u64 0]], []⟩ 20 (by kernel_rfl) (by kernel_rfl) (by kernel_rfl) (by kernel_rfl)) ?_
  intro W base args ds gs before hval hW _ _ _
  exact law (ts := [41, 60]) (tb := 4) laidOut Try.params7 (by kernel_rfl) (by rfl) Try.underlying4 rfl (fun ds hl => by
    match ds, hl with
    | [_, _], _ => rfl) core hval hW
theorem joined : joinedFacts Try.pinned.checked.prog 7 Try.f7 Rows.liveMeansSpec Rows.liveMeansRow = true :=
  joined_of enter_is lifts_is make_is (by kernel_rfl) (by kernel_rfl) (by kernel_rfl) rfl rfl (by kernel_rfl)
theorem named : Try.pinned.checked.prog.funcNamed Rows.liveMeansRow.func = some 7 := by kernel_rfl
theorem over : Rows.liveMeansRow.holds Try.pinned (OpenSpec.ofChange Rows.liveMeansSpec) :=
  OpenClaim.holds_of_wide 7 Try.f7 rfl rfl rfl rfl rfl rfl rfl ⟨rfl, rfl, rfl, rfl, rfl⟩ rfl rfl rfl rfl rfl named Try.func7 joined
    (of_decide_eq_true (by kernel_rfl)) (by unfold Func.isWrapper; first | (rw [if_pos (by decide +kernel)]; kernel_rfl) | (rw [if_neg (by decide +kernel)]; exact ⟨rfl, rfl⟩))
    (fun os started H enc _ => lifted os started H enc)
end Go.Proofs.Ytlgfbiepbneihaa.liveMeans
namespace Go.Proofs.Ytlgfbiepbneihaa
/-- The row. -/
theorem liveMeans_holds : Rows.LiveMeansSaid := liveMeans.over
#print axioms liveMeans_holds
end Go.Proofs.Ytlgfbiepbneihaa
