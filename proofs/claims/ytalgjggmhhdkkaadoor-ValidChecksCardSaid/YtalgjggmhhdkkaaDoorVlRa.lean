/- The card validChecks, out of its contract: the row, by the walk of the law; the listed variable tied to the program's text. -/
import Derived.Test.YtalgjggmhhdkkaaDoorVlG
import Derived.Test.YtalgjggmhhdkkaaDoorMH
import Derived.Test.YtalgjggmhhdkkaaDoorLW
import Derived.Test.YtalgjggmhhdkkaaDoorHd
import Derived.Test.YtalgjggmhhdkkaaDoorKD
import Derived.Test.YtalgjggmhhdkkaaDoorRows
import Derived.Test.YtalgjggmhhdkkaaDoorCards
import Derived.Test.YtalgjggmhhdkkaaDoorTie
import Derived.SevenTiedAt
namespace Go.Proofs.YtalgjggmhhdkkaaDoor.validChecks
open Go.ChangeShapes Go.WideShapes Go.ChangeAt Go.RowKit Go.Ab Go.Ab.Tryd
set_option linter.unusedVariables false
theorem own : ownKnob Tryd.prog.godebug = none := by kernel_rfl
theorem laidOut : laidOutB Tryd.prog = true := by kernel_rfl
theorem core : ∀ pvs, FitTs Tryd.prog [26] pvs → PC Tryd.prog 3 pvs (.bool true) := by
  intro pvs h
  simp only [FitTs] at h
  obtain ⟨p0, q0, rfl, h0, rfl⟩ := h
  obtain ⟨ps, rfl, g⟩ := h0.agg (fs := [.int .i64, .int .i64, .slice [.int .u64], .slice [.int .i64, .int .i64, .int .i64, .int .i64, .int .u64], .slice [.int .i64, .int .i64, .int .i64, .int .i64, .int .u64], .slice [.int .i64, .int .i64, .int .i64, .int .i64, .int .u64]]) (by kernel_rfl) (by kernel_rfl)
  obtain ⟨p, hp, wp⟩ := fit_pg g
  rw [hp]; exact c3 p wp
set_option maxRecDepth 100000 in
theorem lifted (os : Os) (started : os.Started) (H : Type) (enc : TypeId × Value → H) :
    ReturnsInHanded {} Tryd.checked os 3 .any (fun w args => (Rows.validChecksSpec.pre enc Tryd.prog Tryd.f3 [] false w args ∧ laidMetH Tryd.prog laidL w) ∧ sizedMet enc Tryd.prog Tryd.f3 (OpenSpec.ofChange Rows.validChecksSpec) false w args)
      (Rows.validChecksSpec.post enc Tryd.prog Tryd.f3 false true false false) := by
  refine returnsInHanded_of_change_and (C := Tryd.checked) (X := fun w _ => laidMetH Tryd.prog laidL w) (fun _ _ _ hh h => h.of_heap hh) own started (by kernel_rfl) Tryd.func3
    (ChangeSpec.witness_at (enc := enc) (C := Tryd.checked) (os := os) (X := fun w _ => laidMetH Tryd.prog laidL w) false (laidWorld os) #[.agg #[.int .i64 0, .int .i64 0, .slice none 0 0, .slice none 0 0, .slice none 0 0, .slice none 0 0]] 20 rfl (by kernel_rfl) (by kernel_rfl) (by kernel_rfl) (by kernel_rfl) (by kernel_rfl) (laidWorld_met os _)) ?_
  intro W base args ds gs before hval hW _ _ hL _
  exact law (ts := [26]) (tb := 4) laidOut Tryd.params3 (by kernel_rfl) (by rfl) Tryd.underlying4 rfl (fun ds hl => by
    match ds, hl with
    | [_], _ => rfl) core (glob_of_laid hL) hval hW
theorem joined : joinedFacts Tryd.pinned.checked.prog 3 Tryd.f3 Rows.validChecksSpec Rows.validChecksRow = true :=
  joined_of enter_is lifts_is make_is (by kernel_rfl) (by kernel_rfl) (by kernel_rfl) rfl rfl (by kernel_rfl)
theorem named : Tryd.pinned.checked.prog.funcNamed Rows.validChecksRow.func = some 3 := by kernel_rfl
theorem over : Rows.validChecksRow.holds Tryd.pinned (OpenSpec.ofChange Rows.validChecksSpec) :=
  OpenClaim.holds_of_wide 3 Tryd.f3 rfl rfl rfl rfl rfl rfl rfl ⟨rfl, rfl, rfl, rfl, rfl⟩ rfl rfl rfl rfl rfl named Tryd.func3 joined
    (of_decide_eq_true (by kernel_rfl)) (by unfold Func.isWrapper; first | (rw [if_pos (by decide +kernel)]; kernel_rfl) | (rw [if_neg (by decide +kernel)]; exact ⟨rfl, rfl⟩))
    (fun os started H enc _ => lifted os started H enc)
end Go.Proofs.YtalgjggmhhdkkaaDoor.validChecks
namespace Go.Proofs.YtalgjggmhhdkkaaDoor
/-- The row. -/
theorem validChecks_row : Rows.ValidChecksSaid := validChecks.over
/-- The card. -/
theorem validChecks_holds : Rows.ValidChecksCardSaid :=
  Claim7.holds_tied_plain_at .later [] [.handle] true (true, "9c8a8755cba9c59496751d8f0dd72f46274bbdd2564677a11ee6cdbdc4e38722") true
    validChecks_row (fun _ h => by cases h) (by kernel_rfl) (fun _ h => by cases h) validChecks_row_tie rfl ⟨rfl, rfl⟩ (by kernel_rfl) rfl
    (fun f fn hf hfn => by
      obtain rfl : f = 3 := Option.some.inj ((show Tryd.prog.funcNamed "breakwater/breakwaterlaw29.ValidChecks" = some 3 by kernel_rfl).symm.trans hf) |>.symm
      obtain rfl : fn = Tryd.f3 := (Option.some.inj (Tryd.func3.symm.trans hfn)).symm
      exact ⟨by kernel_rfl, fun j t ht => by
        rw [Tryd.params3] at ht
        match j, ht with
        | 0, ht => obtain rfl : t = 26 := by simpa using ht.symm
                   exact (show Tryd.prog.wantsStandIn 26 = false by kernel_rfl)
        | j + 1, ht => simp at ht⟩)
    (by kernel_rfl)
#print axioms validChecks_holds
end Go.Proofs.YtalgjggmhhdkkaaDoor
