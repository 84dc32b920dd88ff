/- The card validLoads, out of its contract: the row, by the walk of the law; the listed variable tied to the program's text. -/
import Derived.Test.YtalgjggmhhdkkaaDoorVlG
import Derived.Test.YtalgjggmhhdkkaaDoorMH
import Derived.Test.YtalgjggmhhdkkaaDoorLW
import Derived.Test.YtalgjggmhhdkkaaDoorHd
import Derived.Test.YtalgjggmhhdkkaaDoorKD
import Derived.Test.YtalgjggmhhdkkaaDoorRows
import Derived.Test.YtalgjggmhhdkkaaDoorCards
import Derived.Test.YtalgjggmhhdkkaaDoorTie
import Derived.SevenTiedAt
namespace Go.Proofs.YtalgjggmhhdkkaaDoor.validLoads
open Go.ChangeShapes Go.WideShapes Go.ChangeAt Go.RowKit Go.Ab Go.Ab.Tryd
set_option linter.unusedVariables false
theorem own : ownKnob Tryd.prog.godebug = none := by kernel_rfl
theorem laidOut : laidOutB Tryd.prog = true := by kernel_rfl
theorem core : ∀ pvs, FitTs Tryd.prog [9, 26] pvs → PC Tryd.prog 4 pvs (.bool true) := by
  intro pvs h
  simp only [FitTs] at h
  obtain ⟨p0, q0, rfl, h0, p1, q1, rfl, h1, rfl⟩ := h
  obtain ⟨s, rfl, hsz⟩ := h0.str (by kernel_rfl) (by kernel_rfl)
  obtain ⟨ps, rfl, g⟩ := h1.agg (fs := [.int .i64, .int .i64, .slice [.int .u64], .slice [.int .i64, .int .i64, .int .i64, .int .i64, .int .u64], .slice [.int .i64, .int .i64, .int .i64, .int .i64, .int .u64], .slice [.int .i64, .int .i64, .int .i64, .int .i64, .int .u64]]) (by kernel_rfl) (by kernel_rfl)
  obtain ⟨p, hp, wp⟩ := fit_pg g
  rw [hp, ← strOf_bytes s]; exact c4 (Go.Ab.bytes s) p (bytes_ok s) wp
set_option maxRecDepth 100000 in
theorem lifted (os : Os) (started : os.Started) (H : Type) (enc : TypeId × Value → H) :
    ReturnsInHanded {} Tryd.checked os 4 .any (fun w args => (Rows.validLoadsSpec.pre enc Tryd.prog Tryd.f4 [] false w args ∧ laidMetH Tryd.prog laidL w) ∧ sizedMet enc Tryd.prog Tryd.f4 (OpenSpec.ofChange Rows.validLoadsSpec) false w args)
      (Rows.validLoadsSpec.post enc Tryd.prog Tryd.f4 false true false false) := by
  refine returnsInHanded_of_change_and (C := Tryd.checked) (X := fun w _ => laidMetH Tryd.prog laidL w) (fun _ _ _ hh h => h.of_heap hh) own started (by kernel_rfl) Tryd.func4
    (ChangeSpec.witness_at (enc := enc) (C := Tryd.checked) (os := os) (X := fun w _ => laidMetH Tryd.prog laidL w) false (laidWorld os) #[.string ⟨#[]⟩, .agg #[.int .i64 0, .int .i64 0, .slice none 0 0, .slice none 0 0, .slice none 0 0, .slice none 0 0]] 20 rfl (by kernel_rfl) (by kernel_rfl) (by kernel_rfl) (by kernel_rfl) (by kernel_rfl) (laidWorld_met os _)) ?_
  intro W base args ds gs before hval hW _ _ hL _
  exact law (ts := [9, 26]) (tb := 4) laidOut Tryd.params4 (by kernel_rfl) (by rfl) Tryd.underlying4 rfl (fun ds hl => by
    match ds, hl with
    | [_, _], _ => rfl) core (glob_of_laid hL) hval hW
theorem joined : joinedFacts Tryd.pinned.checked.prog 4 Tryd.f4 Rows.validLoadsSpec Rows.validLoadsRow = true :=
  joined_of enter_is lifts_is make_is (by kernel_rfl) (by kernel_rfl) (by kernel_rfl) rfl rfl (by kernel_rfl)
theorem named : Tryd.pinned.checked.prog.funcNamed Rows.validLoadsRow.func = some 4 := by kernel_rfl
theorem over : Rows.validLoadsRow.holds Tryd.pinned (OpenSpec.ofChange Rows.validLoadsSpec) :=
  OpenClaim.holds_of_wide 4 Tryd.f4 rfl rfl rfl rfl rfl rfl rfl ⟨rfl, rfl, rfl, rfl, rfl⟩ rfl rfl rfl rfl rfl named Tryd.func4 joined
    (of_decide_eq_true (by kernel_rfl)) (by unfold Func.isWrapper; first | (rw [if_pos (by decide +kernel)]; kernel_rfl) | (rw [if_neg (by decide +kernel)]; exact ⟨rfl, rfl⟩))
    (fun os started H enc _ => lifted os started H enc)
end Go.Proofs.YtalgjggmhhdkkaaDoor.validLoads
namespace Go.Proofs.YtalgjggmhhdkkaaDoor
/-- The row. -/
theorem validLoads_row : Rows.ValidLoadsSaid := validLoads.over
/-- The card. -/
theorem validLoads_holds : Rows.ValidLoadsCardSaid :=
  Claim7.holds_tied_plain_at .later [] [.handle] true (true, "9c8a8755cba9c59496751d8f0dd72f46274bbdd2564677a11ee6cdbdc4e38722") true
    validLoads_row (fun _ h => by cases h) (by kernel_rfl) (fun _ h => by cases h) validLoads_row_tie rfl ⟨rfl, rfl⟩ (by kernel_rfl) rfl
    (fun f fn hf hfn => by
      obtain rfl : f = 4 := Option.some.inj ((show Tryd.prog.funcNamed "breakwater/breakwaterlaw29.ValidLoads" = some 4 by kernel_rfl).symm.trans hf) |>.symm
      obtain rfl : fn = Tryd.f4 := (Option.some.inj (Tryd.func4.symm.trans hfn)).symm
      exact ⟨by kernel_rfl, fun j t ht => by
        rw [Tryd.params4] at ht
        match j, ht with
        | 0, ht => obtain rfl : t = 9 := by simpa using ht.symm
                   exact (show Tryd.prog.wantsStandIn 9 = false by kernel_rfl)
        | 1, ht => obtain rfl : t = 26 := by simpa using ht.symm
                   exact (show Tryd.prog.wantsStandIn 26 = false by kernel_rfl)
        | j + 2, ht => simp at ht⟩)
    (by kernel_rfl)
#print axioms validLoads_holds
end Go.Proofs.YtalgjggmhhdkkaaDoor
