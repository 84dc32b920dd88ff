/- Programs as bytes: the program's Read. -/
import Derived.Test.YtalgjggmhhdkkaaDoorImI
import Derived.Test.YtalgjggmhhdkkaaDoorMI
import Derived.Test.YtalgjggmhhdkkaaDoorME
import Derived.Test.YtalgjggmhhdkkaaDoorKE
namespace Go.Ab.Tryd
open Go.Proofs Go.Ab
set_option linter.unusedVariables false
set_option linter.unusedSimpArgs false
set_option linter.unnecessarySimpa false
set_option maxRecDepth 100000
set_option maxHeartbeats 4000000 in
theorem c17 (l : List Int) (ok : OkB l) (hlen : l.length ≤ 100000) : PC Tryd.prog 17 [.str (strOf l)] (.tup [pgV (readL l).1, .int .i64 (readL l).2]) := by
  refine PC.start 94 Tryd.call17 Tryd.func17 rfl Tryd.ntmps17 Tryd.results17 (by simp only [go_sem]; exact rfl) fun z hz => ?_
  have hbt := bat_strOf ok
  have hm0 : bat ⟨#[66, 87, 75, 49]⟩ 0 = 66 := rfl
  have hm1 : bat ⟨#[66, 87, 75, 49]⟩ 1 = 87 := rfl
  have hm2 : bat ⟨#[66, 87, 75, 49]⟩ 2 = 75 := rfl
  have hm3 : bat ⟨#[66, 87, 75, 49]⟩ 3 = 49 := rfl
  have q1 := And.intro hbt (And.intro hm0 (And.intro hm1 (And.intro hm2 (hm3))))
  refine AW.regR rfl (by simp (maxSteps := 1000000) only [go_sem, listQ, dropQ, q1] <;> exact rfl) (by first | (simp (disch := omega) only [go_sem, w64, wU, listQ, dropQ, q1] <;> exact rfl) | exact rfl) ?_
  refine AW.seq ?_
  refine AW.regR rfl (by simp (maxSteps := 1000000) only [go_sem, listQ, dropQ, q1] <;> exact rfl) (by first | (simp (disch := omega) only [go_sem, w64, wU, listQ, dropQ, q1] <;> exact rfl) | exact rfl) ?_
  refine AW.block ?_
  refine AW.rounds 5 ?_
  refine ARounds.mk ?_
  refine AW.regR rfl (by simp (maxSteps := 1000000) only [go_sem, listQ, dropQ, q1] <;> exact rfl) (by first | (simp (disch := omega) only [go_sem, w64, wU, listQ, dropQ, q1] <;> exact rfl) | exact rfl) ?_
  refine AW.seq ?_
  refine AW.condT (by simp (maxSteps := 1000000) only [go_sem, listQ, dropQ, q1] <;> exact rfl) ?_
  refine AW.skip ?_
  show AW _ _ _ _ _
  refine AW.seq ?_
  refine AW.block ?_
  refine AW.regR rfl (by simp (maxSteps := 1000000) only [go_sem, listQ, dropQ, q1] <;> exact rfl) (by first | (simp (disch := omega) only [go_sem, w64, wU, listQ, dropQ, q1] <;> exact rfl) | exact rfl) ?_
  refine AW.block ?_
  refine AW.regR rfl (by simp (maxSteps := 1000000) only [go_sem, listQ, dropQ, q1] <;> exact rfl) (by first | (simp (disch := omega) only [go_sem, w64, wU, listQ, dropQ, q1] <;> exact rfl) | exact rfl) ?_
  refine AW.cond (by simp (maxSteps := 1000000) only [go_sem, listQ, dropQ, q1] <;> exact rfl) (fun hc1 => ?_) (fun hc1 => ?_)
  · try simp only [decide_eq_true_eq, decide_eq_false_iff_not, Bool.or_eq_true, Bool.or_eq_false_iff, Bool.and_eq_true, Bool.and_eq_false_imp, Bool.not_eq_true', Bool.not_eq_false'] at hc1
    refine AW.regR rfl (by simp (maxSteps := 1000000) only [go_sem, listQ, dropQ, q1] <;> exact rfl) (by first | (simp (disch := omega) only [go_sem, w64, wU, listQ, dropQ, q1] <;> exact rfl) | exact rfl) ?_
    refine retK.fin rfl (by simp (maxSteps := 1000000) only [go_sem, listQ, dropQ, q1] <;> exact rfl) (by simp (maxSteps := 1000000) only [go_sem, listQ, dropQ, q1] <;> exact rfl) ?_
    rw [mag_short (i := 0) (by decide) (by omega) (fun j hj => by (have : False := by omega); exact this.elim)]
    exact Sub.tup ⟨sub_pg0, Sub.refl _, trivial⟩
  · try simp only [decide_eq_true_eq, decide_eq_false_iff_not, Bool.or_eq_true, Bool.or_eq_false_iff, Bool.and_eq_true, Bool.and_eq_false_imp, Bool.not_eq_true', Bool.not_eq_false'] at hc1
    have hi0 : 0 < l.length := by omega
    have hj0 : ((0 : Int) < (l.length : Int)) = True := eq_true (by omega)
    have q2 := And.intro q1 (And.intro hi0 (hj0))
    refine AW.regDS follows (by kernel_rfl) ?_
    refine ARE.run1 (by simp (maxSteps := 1000000) only [go_sem, listQ, dropQ, q2] <;> exact rfl) ?_
    refine ARE.fin [0, 0, 3, 0, 8, 31, 63] _ (by kernel_rfl) (by simp (maxSteps := 1000000) only [go_sem, listQ, dropQ, q2] <;> exact rfl) (by kernel_rfl) (by first | (simp (disch := omega) only [go_sem, w64, wU, listQ, dropQ, q2] <;> exact rfl) | exact rfl) ?_
    refine AW.cond (by simp (maxSteps := 1000000) only [go_sem, listQ, dropQ, q2] <;> exact rfl) (fun hc2 => ?_) (fun hc2 => ?_)
    · simp only [decide_eq_true_eq, decide_eq_false_iff_not, Bool.not_eq_true', Bool.not_eq_false', hbt, hm0] at hc2
      refine AW.regR rfl (by simp (maxSteps := 1000000) only [go_sem, listQ, dropQ, q2] <;> exact rfl) (by first | (simp (disch := omega) only [go_sem, w64, wU, listQ, dropQ, q2] <;> exact rfl) | exact rfl) ?_
      refine retK.fin rfl (by simp (maxSteps := 1000000) only [go_sem, listQ, dropQ, q2] <;> exact rfl) (by simp (maxSteps := 1000000) only [go_sem, listQ, dropQ, q2] <;> exact rfl) ?_
      rw [mag_bad (i := 0) (by decide) (by omega) (fun j hj => by (have : False := by omega); exact this.elim) hc2]
      exact Sub.tup ⟨sub_pg0, Sub.refl _, trivial⟩
    · simp only [decide_eq_true_eq, decide_eq_false_iff_not, Bool.not_eq_true', Bool.not_eq_false', hbt, hm0] at hc2
      refine AW.skip ?_
      show AW _ _ _ _ _
      refine AW.regR1 rfl (by simp (maxSteps := 1000000) only [go_sem, listQ, dropQ, q2] <;> exact rfl) (by first | (simp (disch := omega) only [go_sem, w64, wU, listQ, dropQ, q2] <;> exact rfl) | exact rfl) ?_
      show ARounds _ _ _ _ _ _
      refine ARounds.mk ?_
      refine AW.regR rfl (by simp (maxSteps := 1000000) only [go_sem, listQ, dropQ, q2] <;> exact rfl) (by first | (simp (disch := omega) only [go_sem, w64, wU, listQ, dropQ, q2] <;> exact rfl) | exact rfl) ?_
      refine AW.seq ?_
      refine AW.condT (by simp (maxSteps := 1000000) only [go_sem, listQ, dropQ, q2] <;> exact rfl) ?_
      refine AW.skip ?_
      show AW _ _ _ _ _
      refine AW.seq ?_
      refine AW.block ?_
      refine AW.regR rfl (by simp (maxSteps := 1000000) only [go_sem, listQ, dropQ, q2] <;> exact rfl) (by first | (simp (disch := omega) only [go_sem, w64, wU, listQ, dropQ, q2] <;> exact rfl) | exact rfl) ?_
      refine AW.block ?_
      refine AW.regR rfl (by simp (maxSteps := 1000000) only [go_sem, listQ, dropQ, q2] <;> exact rfl) (by first | (simp (disch := omega) only [go_sem, w64, wU, listQ, dropQ, q2] <;> exact rfl) | exact rfl) ?_
      refine AW.cond (by simp (maxSteps := 1000000) only [go_sem, listQ, dropQ, q2] <;> exact rfl) (fun hc3 => ?_) (fun hc3 => ?_)
      · try simp only [decide_eq_true_eq, decide_eq_false_iff_not, Bool.or_eq_true, Bool.or_eq_false_iff, Bool.and_eq_true, Bool.and_eq_false_imp, Bool.not_eq_true', Bool.not_eq_false'] at hc3
        refine AW.regR rfl (by simp (maxSteps := 1000000) only [go_sem, listQ, dropQ, q2] <;> exact rfl) (by first | (simp (disch := omega) only [go_sem, w64, wU, listQ, dropQ, q2] <;> exact rfl) | exact rfl) ?_
        refine retK.fin rfl (by simp (maxSteps := 1000000) only [go_sem, listQ, dropQ, q2] <;> exact rfl) (by simp (maxSteps := 1000000) only [go_sem, listQ, dropQ, q2] <;> exact rfl) ?_
        rw [mag_short (i := 1) (by decide) (by omega) (fun j hj => by (have : j = 0 := by omega); subst this; assumption)]
        exact Sub.tup ⟨sub_pg0, Sub.refl _, trivial⟩
      · try simp only [decide_eq_true_eq, decide_eq_false_iff_not, Bool.or_eq_true, Bool.or_eq_false_iff, Bool.and_eq_true, Bool.and_eq_false_imp, Bool.not_eq_true', Bool.not_eq_false'] at hc3
        have hi1 : 1 < l.length := by omega
        have hj1 : ((1 : Int) < (l.length : Int)) = True := eq_true (by omega)
        have q3 := And.intro q2 (And.intro hi1 (hj1))
        refine AW.regDS follows (by kernel_rfl) ?_
        refine ARE.run1 (by simp (maxSteps := 1000000) only [go_sem, listQ, dropQ, q3] <;> exact rfl) ?_
        refine ARE.fin [0, 0, 3, 0, 8, 31, 63] _ (by kernel_rfl) (by simp (maxSteps := 1000000) only [go_sem, listQ, dropQ, q3] <;> exact rfl) (by kernel_rfl) (by first | (simp (disch := omega) only [go_sem, w64, wU, listQ, dropQ, q3] <;> exact rfl) | exact rfl) ?_
        refine AW.cond (by simp (maxSteps := 1000000) only [go_sem, listQ, dropQ, q3] <;> exact rfl) (fun hc4 => ?_) (fun hc4 => ?_)
        · simp only [decide_eq_true_eq, decide_eq_false_iff_not, Bool.not_eq_true', Bool.not_eq_false', hbt, hm1] at hc4
          refine AW.regR rfl (by simp (maxSteps := 1000000) only [go_sem, listQ, dropQ, q3] <;> exact rfl) (by first | (simp (disch := omega) only [go_sem, w64, wU, listQ, dropQ, q3] <;> exact rfl) | exact rfl) ?_
          refine retK.fin rfl (by simp (maxSteps := 1000000) only [go_sem, listQ, dropQ, q3] <;> exact rfl) (by simp (maxSteps := 1000000) only [go_sem, listQ, dropQ, q3] <;> exact rfl) ?_
          rw [mag_bad (i := 1) (by decide) (by omega) (fun j hj => by (have : j = 0 := by omega); subst this; assumption) hc4]
          exact Sub.tup ⟨sub_pg0, Sub.refl _, trivial⟩
        · simp only [decide_eq_true_eq, decide_eq_false_iff_not, Bool.not_eq_true', Bool.not_eq_false', hbt, hm1] at hc4
          refine AW.skip ?_
          show AW _ _ _ _ _
          refine AW.regR1 rfl (by simp (maxSteps := 1000000) only [go_sem, listQ, dropQ, q3] <;> exact rfl) (by first | (simp (disch := omega) only [go_sem, w64, wU, listQ, dropQ, q3] <;> exact rfl) | exact rfl) ?_
          show ARounds _ _ _ _ _ _
          refine ARounds.mk ?_
          refine AW.regR rfl (by simp (maxSteps := 1000000) only [go_sem, listQ, dropQ, q3] <;> exact rfl) (by first | (simp (disch := omega) only [go_sem, w64, wU, listQ, dropQ, q3] <;> exact rfl) | exact rfl) ?_
          refine AW.seq ?_
          refine AW.condT (by simp (maxSteps := 1000000) only [go_sem, listQ, dropQ, q3] <;> exact rfl) ?_
          refine AW.skip ?_
          show AW _ _ _ _ _
          refine AW.seq ?_
          refine AW.block ?_
          refine AW.regR rfl (by simp (maxSteps := 1000000) only [go_sem, listQ, dropQ, q3] <;> exact rfl) (by first | (simp (disch := omega) only [go_sem, w64, wU, listQ, dropQ, q3] <;> exact rfl) | exact rfl) ?_
          refine AW.block ?_
          refine AW.regR rfl (by simp (maxSteps := 1000000) only [go_sem, listQ, dropQ, q3] <;> exact rfl) (by first | (simp (disch := omega) only [go_sem, w64, wU, listQ, dropQ, q3] <;> exact rfl) | exact rfl) ?_
          refine AW.cond (by simp (maxSteps := 1000000) only [go_sem, listQ, dropQ, q3] <;> exact rfl) (fun hc5 => ?_) (fun hc5 => ?_)
          · try simp only [decide_eq_true_eq, decide_eq_false_iff_not, Bool.or_eq_true, Bool.or_eq_false_iff, Bool.and_eq_true, Bool.and_eq_false_imp, Bool.not_eq_true', Bool.not_eq_false'] at hc5
            refine AW.regR rfl (by simp (maxSteps := 1000000) only [go_sem, listQ, dropQ, q3] <;> exact rfl) (by first | (simp (disch := omega) only [go_sem, w64, wU, listQ, dropQ, q3] <;> exact rfl) | exact rfl) ?_
            refine retK.fin rfl (by simp (maxSteps := 1000000) only [go_sem, listQ, dropQ, q3] <;> exact rfl) (by simp (maxSteps := 1000000) only [go_sem, listQ, dropQ, q3] <;> exact rfl) ?_
            rw [mag_short (i := 2) (by decide) (by omega) (fun j hj => by (have : j = 0 ∨ j = 1 := by omega); rcases this with rfl | rfl <;> assumption)]
            exact Sub.tup ⟨sub_pg0, Sub.refl _, trivial⟩
          · try simp only [decide_eq_true_eq, decide_eq_false_iff_not, Bool.or_eq_true, Bool.or_eq_false_iff, Bool.and_eq_true, Bool.and_eq_false_imp, Bool.not_eq_true', Bool.not_eq_false'] at hc5
            have hi2 : 2 < l.length := by omega
            have hj2 : ((2 : Int) < (l.length : Int)) = True := eq_true (by omega)
            have q4 := And.intro q3 (And.intro hi2 (hj2))
            refine AW.regDS follows (by kernel_rfl) ?_
            refine ARE.run1 (by simp (maxSteps := 1000000) only [go_sem, listQ, dropQ, q4] <;> exact rfl) ?_
            refine ARE.fin [0, 0, 3, 0, 8, 31, 63] _ (by kernel_rfl) (by simp (maxSteps := 1000000) only [go_sem, listQ, dropQ, q4] <;> exact rfl) (by kernel_rfl) (by first | (simp (disch := omega) only [go_sem, w64, wU, listQ, dropQ, q4] <;> exact rfl) | exact rfl) ?_
            refine AW.cond (by simp (maxSteps := 1000000) only [go_sem, listQ, dropQ, q4] <;> exact rfl) (fun hc6 => ?_) (fun hc6 => ?_)
            · simp only [decide_eq_true_eq, decide_eq_false_iff_not, Bool.not_eq_true', Bool.not_eq_false', hbt, hm2] at hc6
              refine AW.regR rfl (by simp (maxSteps := 1000000) only [go_sem, listQ, dropQ, q4] <;> exact rfl) (by first | (simp (disch := omega) only [go_sem, w64, wU, listQ, dropQ, q4] <;> exact rfl) | exact rfl) ?_
              refine retK.fin rfl (by simp (maxSteps := 1000000) only [go_sem, listQ, dropQ, q4] <;> exact rfl) (by simp (maxSteps := 1000000) only [go_sem, listQ, dropQ, q4] <;> exact rfl) ?_
              rw [mag_bad (i := 2) (by decide) (by omega) (fun j hj => by (have : j = 0 ∨ j = 1 := by omega); rcases this with rfl | rfl <;> assumption) hc6]
              exact Sub.tup ⟨sub_pg0, Sub.refl _, trivial⟩
            · simp only [decide_eq_true_eq, decide_eq_false_iff_not, Bool.not_eq_true', Bool.not_eq_false', hbt, hm2] at hc6
              refine AW.skip ?_
              show AW _ _ _ _ _
              refine AW.regR1 rfl (by simp (maxSteps := 1000000) only [go_sem, listQ, dropQ, q4] <;> exact rfl) (by first | (simp (disch := omega) only [go_sem, w64, wU, listQ, dropQ, q4] <;> exact rfl) | exact rfl) ?_
              show ARounds _ _ _ _ _ _
              refine ARounds.mk ?_
              refine AW.regR rfl (by simp (maxSteps := 1000000) only [go_sem, listQ, dropQ, q4] <;> exact rfl) (by first | (simp (disch := omega) only [go_sem, w64, wU, listQ, dropQ, q4] <;> exact rfl) | exact rfl) ?_
              refine AW.seq ?_
              refine AW.condT (by simp (maxSteps := 1000000) only [go_sem, listQ, dropQ, q4] <;> exact rfl) ?_
              refine AW.skip ?_
              show AW _ _ _ _ _
              refine AW.seq ?_
              refine AW.block ?_
              refine AW.regR rfl (by simp (maxSteps := 1000000) only [go_sem, listQ, dropQ, q4] <;> exact rfl) (by first | (simp (disch := omega) only [go_sem, w64, wU, listQ, dropQ, q4] <;> exact rfl) | exact rfl) ?_
              refine AW.block ?_
              refine AW.regR rfl (by simp (maxSteps := 1000000) only [go_sem, listQ, dropQ, q4] <;> exact rfl) (by first | (simp (disch := omega) only [go_sem, w64, wU, listQ, dropQ, q4] <;> exact rfl) | exact rfl) ?_
              refine AW.cond (by simp (maxSteps := 1000000) only [go_sem, listQ, dropQ, q4] <;> exact rfl) (fun hc7 => ?_) (fun hc7 => ?_)
              · try simp only [decide_eq_true_eq, decide_eq_false_iff_not, Bool.or_eq_true, Bool.or_eq_false_iff, Bool.and_eq_true, Bool.and_eq_false_imp, Bool.not_eq_true', Bool.not_eq_false'] at hc7
                refine AW.regR rfl (by simp (maxSteps := 1000000) only [go_sem, listQ, dropQ, q4] <;> exact rfl) (by first | (simp (disch := omega) only [go_sem, w64, wU, listQ, dropQ, q4] <;> exact rfl) | exact rfl) ?_
                refine retK.fin rfl (by simp (maxSteps := 1000000) only [go_sem, listQ, dropQ, q4] <;> exact rfl) (by simp (maxSteps := 1000000) only [go_sem, listQ, dropQ, q4] <;> exact rfl) ?_
                rw [mag_short (i := 3) (by decide) (by omega) (fun j hj => by (have : j = 0 ∨ j = 1 ∨ j = 2 := by omega); rcases this with rfl | rfl | rfl <;> assumption)]
                exact Sub.tup ⟨sub_pg0, Sub.refl _, trivial⟩
              · try simp only [decide_eq_true_eq, decide_eq_false_iff_not, Bool.or_eq_true, Bool.or_eq_false_iff, Bool.and_eq_true, Bool.and_eq_false_imp, Bool.not_eq_true', Bool.not_eq_false'] at hc7
                have hi3 : 3 < l.length := by omega
                have hj3 : ((3 : Int) < (l.length : Int)) = True := eq_true (by omega)
                have q5 := And.intro q4 (And.intro hi3 (hj3))
                refine AW.regDS follows (by kernel_rfl) ?_
                refine ARE.run1 (by simp (maxSteps := 1000000) only [go_sem, listQ, dropQ, q5] <;> exact rfl) ?_
                refine ARE.fin [0, 0, 3, 0, 8, 31, 63] _ (by kernel_rfl) (by simp (maxSteps := 1000000) only [go_sem, listQ, dropQ, q5] <;> exact rfl) (by kernel_rfl) (by first | (simp (disch := omega) only [go_sem, w64, wU, listQ, dropQ, q5] <;> exact rfl) | exact rfl) ?_
                refine AW.cond (by simp (maxSteps := 1000000) only [go_sem, listQ, dropQ, q5] <;> exact rfl) (fun hc8 => ?_) (fun hc8 => ?_)
                · simp only [decide_eq_true_eq, decide_eq_false_iff_not, Bool.not_eq_true', Bool.not_eq_false', hbt, hm3] at hc8
                  refine AW.regR rfl (by simp (maxSteps := 1000000) only [go_sem, listQ, dropQ, q5] <;> exact rfl) (by first | (simp (disch := omega) only [go_sem, w64, wU, listQ, dropQ, q5] <;> exact rfl) | exact rfl) ?_
                  refine retK.fin rfl (by simp (maxSteps := 1000000) only [go_sem, listQ, dropQ, q5] <;> exact rfl) (by simp (maxSteps := 1000000) only [go_sem, listQ, dropQ, q5] <;> exact rfl) ?_
                  rw [mag_bad (i := 3) (by decide) (by omega) (fun j hj => by (have : j = 0 ∨ j = 1 ∨ j = 2 := by omega); rcases this with rfl | rfl | rfl <;> assumption) hc8]
                  exact Sub.tup ⟨sub_pg0, Sub.refl _, trivial⟩
                · simp only [decide_eq_true_eq, decide_eq_false_iff_not, Bool.not_eq_true', Bool.not_eq_false', hbt, hm3] at hc8
                  refine AW.skip ?_
                  show AW _ _ _ _ _
                  refine AW.regR1 rfl (by simp (maxSteps := 1000000) only [go_sem, listQ, dropQ, q5] <;> exact rfl) (by first | (simp (disch := omega) only [go_sem, w64, wU, listQ, dropQ, q5] <;> exact rfl) | exact rfl) ?_
                  show ARounds _ _ _ _ _ _
                  refine ARounds.mk ?_
                  refine AW.regR rfl (by simp (maxSteps := 1000000) only [go_sem, listQ, dropQ, q5] <;> exact rfl) (by first | (simp (disch := omega) only [go_sem, w64, wU, listQ, dropQ, q5] <;> exact rfl) | exact rfl) ?_
                  refine AW.seq ?_
                  refine AW.condF (by simp (maxSteps := 1000000) only [go_sem, listQ, dropQ, q5] <;> exact rfl) ?_
                  refine AW.exit ?_
                  show AW _ _ _ _ _
                  obtain ⟨l4, rfl⟩ := mag_of (by omega) hc2 hc4 hc6 hc8
                  have okl : OkB l4 := fun x hx => ok x (by simp [hx])
                  have hl4 : ((4 : Int) ≤ ((l4.length + 1 + 1 + 1 + 1 : Nat) : Int)) = True := eq_true (by omega)
                  have htk : List.take (l4.length + 1 + 1 + 1 + 1 - 4) l4 = l4 := List.take_of_length_le (by omega)
                  have hg2 := get_ok okl 2
                  have q6 := And.intro q5 (And.intro hl4 (And.intro htk (hg2)))
                  refine AW.regR rfl (by simp (maxSteps := 1000000) only [go_sem, listQ, dropQ, q6] <;> exact rfl) (by first | (simp (disch := omega) only [go_sem, w64, wU, listQ, dropQ, q6] <;> exact rfl) | exact rfl) ?_
                  refine AW.regR rfl (by simp (maxSteps := 1000000) only [go_sem, listQ, dropQ, q6] <;> exact rfl) (by first | (simp (disch := omega) only [go_sem, w64, wU, listQ, dropQ, q6] <;> exact rfl) | exact rfl) ?_
                  refine AW.regL ?_
                  refine AWL.runG (by simp (maxSteps := 1000000) only [go_sem, listQ, dropQ, q6] <;> exact rfl) ?_
                  refine AWL.one0 (by first | exact okl | assumption | exact okl.drop _ | exact OkB.drop (by assumption) _) rfl (by simp (maxSteps := 1000000) only [go_sem, listQ, dropQ, q6] <;> exact rfl) (by simp (maxSteps := 1000000) only [go_sem, listQ, dropQ, q6] <;> exact rfl) (by simp (maxSteps := 1000000) only [go_sem, listQ, dropQ, q6] <;> exact rfl) (by simp (maxSteps := 1000000) only [go_sem, listQ, dropQ, q6] <;> exact rfl) ?_
                  refine AWL.runG (by simp (maxSteps := 1000000) only [go_sem, listQ, dropQ, q6] <;> exact rfl) ?_
                  refine AWL.oneN 1 (by first | exact okl | assumption | exact okl.drop _ | exact OkB.drop (by assumption) _) rfl (by simp (maxSteps := 1000000) only [go_sem, listQ, dropQ, q6] <;> exact rfl) (by simp (maxSteps := 1000000) only [go_sem, listQ, dropQ, q6] <;> exact rfl) (by simp (maxSteps := 1000000) only [go_sem, listQ, dropQ, q6] <;> exact rfl) (by simp (maxSteps := 1000000) only [go_sem, listQ, dropQ, q6] <;> exact rfl) ?_
                  refine AWL.runG (by simp (maxSteps := 1000000) only [go_sem, listQ, dropQ, q6] <;> exact rfl) ?_
                  refine AWL.fin (by first | (simp (disch := omega) only [go_sem, w64, wU, listQ, dropQ, q6] <;> exact rfl) | exact rfl) ?_
                  refine AW.seq ?_
                  refine AW.regL ?_
                  refine AWL.runG (by simp (maxSteps := 1000000) only [go_sem, listQ, dropQ, q6] <;> exact rfl) ?_
                  refine AWL.oneN 2 (by first | exact okl | assumption | exact okl.drop _ | exact OkB.drop (by assumption) _) rfl (by simp (maxSteps := 1000000) only [go_sem, listQ, dropQ, q6] <;> exact rfl) (by simp (maxSteps := 1000000) only [go_sem, listQ, dropQ, q6] <;> exact rfl) (by simp (maxSteps := 1000000) only [go_sem, listQ, dropQ, q6] <;> exact rfl) (by simp (maxSteps := 1000000) only [go_sem, listQ, dropQ, q6] <;> exact rfl) ?_
                  refine AWL.runG (by simp (maxSteps := 1000000) only [go_sem, listQ, dropQ, q6] <;> exact rfl) ?_
                  refine AWL.fin (by first | (simp (disch := omega) only [go_sem, w64, wU, listQ, dropQ, q6] <;> exact rfl) | exact rfl) ?_
                  refine AW.block ?_
                  refine AW.loopV (α := (List Int) × (List Int) × (Bool) × (Int)) (fun ((D, lr, sh, i) : (List Int) × (List Int) × (Bool) × (Int)) => [(39, .pv (.int .i64 i))]) (fun ((D, lr, sh, i) : (List Int) × (List Int) × (Bool) × (Int)) => [.box [.pv (.int .i64 0), .pv (.int .i64 0), .pv (.lst true 0 []), .pv (.lst true 0 []), .pv (.lst true 0 []), .pv (.lst true 0 [])], .box [.pv (.str (strOf lr)), .pv (.bool sh)], .box [.pv (.int .i64 (l4.getD 0 0)), .pv (.int .i64 (l4.getD 1 0)), .vs 3 0 D.length, .pv (.lst true 0 []), .pv (.lst true 0 []), .pv (.lst true 0 [])], .vec 1 (D.map wdR)]) (fun ((D, lr, sh, i) : (List Int) × (List Int) × (Bool) × (Int)) => (0 ≤ i) ∧ (i ≤ (l4.getD 2 0)) ∧ ((D.length : Int) = i) ∧ (OkB lr) ∧ ((∀ x ∈ D, W64 x)) ∧ (pTop l4 = goR sh (pDisk (fun D l' => pC0 (l4.getD 0 0) (l4.getD 1 0) D l') ((l4.getD 2 0) - i).toNat D lr)) ∧ (lr.length ≤ l4.length)) (fun ((D, lr, sh, i) : (List Int) × (List Int) × (Bool) × (Int)) => ((l4.getD 2 0) - i).toNat) ([], l4.drop 3, shB false l4 3, 0) ?_ ?_ ?_
                  · exact ⟨by omega, by omega, rfl, okl.drop 3, (fun x hx => by cases hx), by rw [top_step, show (((l4.getD 2 0) - 0).toNat) = (l4.getD 2 0).toNat by omega], by simp⟩
                  · refine Wk.trans (Wk.vecB 1 2 2 0 (by rfl) (by rfl) (by rfl)) (Wk.to [] [0, 1, 2, 6] hz (by decide) ?_ ?_)
                    · simp (maxSteps := 1000000) (disch := omega) only [go_sem, w64, wU, List.map_append, List.map_cons, List.map_nil, List.cons_append, List.nil_append, List.length_append, List.length_cons, List.length_nil, Nat.le_refl]
                    · simp (maxSteps := 1000000) (disch := omega) only [go_sem, w64, wU, List.map_append, List.map_cons, List.map_nil, List.cons_append, List.nil_append, List.length_append, List.length_cons, List.length_nil, Nat.le_refl]
                  · rintro ⟨D, lr, sh, i⟩ hF _ ht _ hh
                    simp only [updT, go_sem] at ht hh
                    subst ht; subst hh
                    obtain ⟨h1, h2, h3, h4, h5, h6, h7⟩ := hF
                    refine AW.regR rfl (by simp (maxSteps := 1000000) only [go_sem, listQ, dropQ, q6] <;> exact rfl) (by first | (simp (disch := omega) only [go_sem, w64, wU, listQ, dropQ, q6] <;> exact rfl) | exact rfl) ?_
                    refine AW.seq ?_
                    refine AW.cond (by simp (maxSteps := 1000000) only [go_sem, listQ, dropQ, q6] <;> exact rfl) (fun hc9 => ?_) (fun hc9 => ?_)
                    · try simp only [decide_eq_true_eq, decide_eq_false_iff_not, Bool.or_eq_true, Bool.or_eq_false_iff, Bool.and_eq_true, Bool.and_eq_false_imp, Bool.not_eq_true', Bool.not_eq_false'] at hc9
                      have g1 : 0 ≤ i := h1
                      have hwi : IntKind.i64.wrap (i + 1) = i + 1 := w64 (by omega) (by omega)
                      have u1 : ((D.length + 1) * 8 ≤ 140737488355328) = True := eq_true (by omega)
                      have u2 : (D.length + 1 ≤ 140737488355328) = True := eq_true (by omega)
                      have u3 : (D.length ≤ 140737488355327) = True := eq_true (by omega)
                      have q7 := And.intro q6 (And.intro g1 (And.intro hwi (And.intro u1 (And.intro u2 (u3)))))
                      refine AW.skip ?_
                      show AW _ _ _ _ _
                      refine AW.seq ?_
                      refine AW.block ?_
                      refine AW.reg2L 2 5 [(41, .ptr 2 2), (42, .vs 3 0 D.length)] [(43, .ptr 1 0), (44, .pv (.int .u64 (numW lr))), (45, .pv (.lst true 1 [[.int .u64 (numW lr)]]))] [[.box [.pv (.int .i64 0), .pv (.int .i64 0), .pv (.lst true 0 []), .pv (.lst true 0 []), .pv (.lst true 0 []), .pv (.lst true 0 [])], .box [.pv (.str (strOf lr)), .pv (.bool sh)], .box [.pv (.int .i64 (l4.getD 0 0)), .pv (.int .i64 (l4.getD 1 0)), .vs 3 0 D.length, .pv (.lst true 0 []), .pv (.lst true 0 []), .pv (.lst true 0 [])], .vec 1 (D.map wdR)], [.box [.pv (.int .i64 0), .pv (.int .i64 0), .pv (.lst true 0 []), .pv (.lst true 0 []), .pv (.lst true 0 []), .pv (.lst true 0 [])], .box [.pv (.str (strOf lr)), .pv (.bool sh)], .box [.pv (.int .i64 (l4.getD 0 0)), .pv (.int .i64 (l4.getD 1 0)), .vs 3 0 D.length, .pv (.lst true 0 []), .pv (.lst true 0 []), .pv (.lst true 0 [])], .vec 1 (D.map wdR)], [.box [.pv (.int .i64 0), .pv (.int .i64 0), .pv (.lst true 0 []), .pv (.lst true 0 []), .pv (.lst true 0 []), .pv (.lst true 0 [])], .box [.pv (.str (strOf (lr.drop 8))), .pv (.bool (shB sh lr 8))], .box [.pv (.int .i64 (l4.getD 0 0)), .pv (.int .i64 (l4.getD 1 0)), .vs 3 0 D.length, .pv (.lst true 0 []), .pv (.lst true 0 []), .pv (.lst true 0 [])], .vec 1 (D.map wdR), .vec 1 [[.int .u8 (lr.getD 0 0)], [.int .u8 (lr.getD 1 0)], [.int .u8 (lr.getD 2 0)], [.int .u8 (lr.getD 3 0)], [.int .u8 (lr.getD 4 0)], [.int .u8 (lr.getD 5 0)], [.int .u8 (lr.getD 6 0)], [.int .u8 (lr.getD 7 0)]]], [.box [.pv (.int .i64 0), .pv (.int .i64 0), .pv (.lst true 0 []), .pv (.lst true 0 []), .pv (.lst true 0 []), .pv (.lst true 0 [])], .box [.pv (.str (strOf (lr.drop 8))), .pv (.bool (shB sh lr 8))], .box [.pv (.int .i64 (l4.getD 0 0)), .pv (.int .i64 (l4.getD 1 0)), .vs 3 0 D.length, .pv (.lst true 0 []), .pv (.lst true 0 []), .pv (.lst true 0 [])], .vec 1 (D.map wdR), .vec 1 [[.int .u8 (lr.getD 0 0)], [.int .u8 (lr.getD 1 0)], [.int .u8 (lr.getD 2 0)], [.int .u8 (lr.getD 3 0)], [.int .u8 (lr.getD 4 0)], [.int .u8 (lr.getD 5 0)], [.int .u8 (lr.getD 6 0)], [.int .u8 (lr.getD 7 0)]]]] follows (by kernel_rfl) (by decide) (by kernel_rfl) rfl ?_ ?_ rfl ?_
                      · intro i j hi hj o ho
                        obtain rfl | rfl : i = 0 ∨ i = 1 := by omega
                        all_goals (obtain rfl | rfl | rfl | rfl : j = 0 ∨ j = 1 ∨ j = 2 ∨ j = 3 := by omega)
                        all_goals obtain rfl := Option.some.inj ho
                        all_goals simp only [List.take_succ_cons, List.take_zero, List.take_nil, List.getD_cons_succ, List.getD_cons_zero, updT, List.set_cons_succ, List.set_cons_zero]
                        all_goals (refine AWL.runG (by simp (maxSteps := 1000000) only [go_sem, listQ, dropQ, q7] <;> exact rfl) ?_; exact AWL.fin1 rfl ⟨rfl, rfl⟩)
                      · intro i j hi hj o ho
                        obtain rfl | rfl | rfl : j = 0 ∨ j = 1 ∨ j = 2 := by omega
                        · obtain rfl | rfl | rfl : i = 0 ∨ i = 1 ∨ i = 2 := by omega
                          all_goals obtain rfl := Option.some.inj ho
                          all_goals simp only [List.take_succ_cons, List.take_zero, List.take_nil, List.getD_cons_succ, List.getD_cons_zero, updT, List.set_cons_succ, List.set_cons_zero]
                          all_goals (refine AWL.runG (by simp (maxSteps := 1000000) only [go_sem, listQ, dropQ, q7] <;> exact rfl) ?_; exact AWL.fin1 rfl ⟨rfl, rfl⟩)
                        · obtain rfl | rfl | rfl : i = 0 ∨ i = 1 ∨ i = 2 := by omega
                          all_goals obtain rfl := Option.some.inj ho
                          all_goals simp only [List.take_succ_cons, List.take_zero, List.take_nil, List.getD_cons_succ, List.getD_cons_zero, updT, List.set_cons_succ, List.set_cons_zero]
                          all_goals (refine AWL.word0 (by first | exact okl | assumption | exact okl.drop _ | exact OkB.drop (by assumption) _) rfl (by simp (maxSteps := 1000000) only [go_sem, listQ, dropQ, q7] <;> exact rfl) (by simp (maxSteps := 1000000) only [go_sem, listQ, dropQ, q7] <;> exact rfl) (by simp (maxSteps := 1000000) only [go_sem, listQ, dropQ, q7] <;> exact rfl) (by simp (maxSteps := 1000000) only [go_sem, listQ, dropQ, q7] <;> exact rfl) ?_; exact AWL.fin1 rfl ⟨rfl, rfl⟩)
                        · obtain rfl | rfl | rfl : i = 0 ∨ i = 1 ∨ i = 2 := by omega
                          all_goals obtain rfl := Option.some.inj ho
                          all_goals simp only [List.take_succ_cons, List.take_zero, List.take_nil, List.getD_cons_succ, List.getD_cons_zero, updT, List.set_cons_succ, List.set_cons_zero]
                          all_goals (refine AWL.runG (by simp (maxSteps := 1000000) only [go_sem, listQ, dropQ, q7] <;> exact rfl) ?_; exact AWL.fin1 rfl ⟨rfl, rfl⟩)
                      simp only [List.take_succ_cons, List.take_zero, List.take_nil, List.getD_cons_succ, List.getD_cons_zero, updT, List.set_cons_succ, List.set_cons_zero]
                      refine AWL.runG (by simp (maxSteps := 1000000) only [go_sem, listQ, dropQ, q7] <;> exact rfl) ?_
                      refine AWL.fin1 (by first | (simp (disch := omega) only [go_sem, w64, wU, listQ, dropQ, q7] <;> exact rfl) | exact rfl) ?_
                      show AW _ _ _ _ _
                      refine AW.regR1 rfl (by simp (maxSteps := 1000000) only [go_sem, listQ, dropQ, q7] <;> exact rfl) (by first | (simp (disch := omega) only [go_sem, w64, wU, listQ, dropQ, q7] <;> exact rfl) | exact rfl) ?_
                      refine ⟨(D ++ [numW lr], lr.drop 8, shB sh lr 8, i + 1), ?_, ?_, ?_⟩
                      · (try dsimp only); omega
                      · exact ⟨by (try dsimp only); omega, by (try dsimp only); omega, by simp; omega, h4.drop 8, (fun x hx => (List.mem_append.1 hx).elim (h5 x) (fun q => by rw [List.mem_singleton.1 q]; exact numW_ok h4)), by rw [h6, disk_step (by omega), show (((l4.getD 2 0) - i).toNat - 1) = ((l4.getD 2 0) - (i + 1)).toNat by omega], by simp; omega⟩
                      · refine Wk.to [] [0, 1, 2, 5] hz (by decide) ?_ ?_
                        · simp (maxSteps := 1000000) (disch := omega) only [go_sem, w64, wU, listQ, dropQ, q7]
                        · simp (maxSteps := 1000000) (disch := omega) only [go_sem, w64, wU, listQ, dropQ, q7]
                    · try simp only [decide_eq_true_eq, decide_eq_false_iff_not, Bool.or_eq_true, Bool.or_eq_false_iff, Bool.and_eq_true, Bool.and_eq_false_imp, Bool.not_eq_true', Bool.not_eq_false'] at hc9
                      have hD : D.length ≤ 255 := by omega
                      have h8 : pTop l4 = goR sh (pC0 (l4.getD 0 0) (l4.getD 1 0) D lr) := by rw [h6, disk_end (by omega)]
                      have q8 := And.intro q6 (And.intro hD (h8))
                      refine AW.exit ?_
                      show AW _ _ _ _ _
                      refine AW.seq ?_
                      refine AW.regR rfl (by simp (maxSteps := 1000000) only [go_sem, listQ, dropQ, q8] <;> exact rfl) (by first | (simp (disch := omega) only [go_sem, w64, wU, listQ, dropQ, q8] <;> exact rfl) | exact rfl) ?_
                      refine AW.block ?_
                      refine AW.rounds 4 ?_
                      refine ARounds.mk ?_
                      refine AW.regR rfl (by simp (maxSteps := 1000000) only [go_sem, listQ, dropQ, q8] <;> exact rfl) (by first | (simp (disch := omega) only [go_sem, w64, wU, listQ, dropQ, q8] <;> exact rfl) | exact rfl) ?_
                      refine AW.seq ?_
                      refine AW.condT (by simp (maxSteps := 1000000) only [go_sem, listQ, dropQ, q8] <;> exact rfl) ?_
                      refine AW.skip ?_
                      show AW _ _ _ _ _
                      refine AW.seq ?_
                      refine AW.block ?_
                      refine AW.regR rfl (by simp (maxSteps := 1000000) only [go_sem, listQ, dropQ, q8] <;> exact rfl) (by first | (simp (disch := omega) only [go_sem, w64, wU, listQ, dropQ, q8] <;> exact rfl) | exact rfl) ?_
                      refine AW.regL ?_
                      refine AWL.runG (by simp (maxSteps := 1000000) only [go_sem, listQ, dropQ, q8] <;> exact rfl) ?_
                      refine AWL.one0 (by first | exact okl | assumption | exact okl.drop _ | exact OkB.drop (by assumption) _) rfl (by simp (maxSteps := 1000000) only [go_sem, listQ, dropQ, q8] <;> exact rfl) (by simp (maxSteps := 1000000) only [go_sem, listQ, dropQ, q8] <;> exact rfl) (by simp (maxSteps := 1000000) only [go_sem, listQ, dropQ, q8] <;> exact rfl) (by simp (maxSteps := 1000000) only [go_sem, listQ, dropQ, q8] <;> exact rfl) ?_
                      refine AWL.runG (by simp (maxSteps := 1000000) only [go_sem, listQ, dropQ, q8] <;> exact rfl) ?_
                      refine AWL.fin (by first | (simp (disch := omega) only [go_sem, w64, wU, listQ, dropQ, q8] <;> exact rfl) | exact rfl) ?_
                      refine AW.block ?_
                      refine AW.loopV (α := (List Ins) × (List Int) × (Bool) × (Int)) (fun ((K0, la, sa, j0) : (List Ins) × (List Int) × (Bool) × (Int)) => [(8, .any), (54, .pv (.int .i64 j0)), (55, .any), (56, .any), (57, .any), (58, .any), (59, .any), (60, .any), (61, .any), (62, .any), (63, .any), (64, .any), (65, .any), (66, .any), (67, .any), (68, .any), (69, .any), (70, .any), (71, .any), (72, .any), (73, .any), (74, .any), (75, .any), (76, .any), (77, .any), (78, .any)]) (fun ((K0, la, sa, j0) : (List Ins) × (List Int) × (Bool) × (Int)) => [.box [.pv (.int .i64 0), .pv (.int .i64 0), .pv (.lst true 0 []), .pv (.lst true 0 []), .pv (.lst true 0 []), .pv (.lst true 0 [])], .box [.pv (.str (strOf la)), .pv (.bool sa)], .box [.pv (.int .i64 (l4.getD 0 0)), .pv (.int .i64 (l4.getD 1 0)), .vs 3 0 D.length, .vs 4 0 K0.length, .pv (.lst true 0 []), .pv (.lst true 0 [])], .vec 1 (D.map wdR), .vec 5 (K0.map inR)]) (fun ((K0, la, sa, j0) : (List Ins) × (List Int) × (Bool) × (Int)) => (0 ≤ j0) ∧ (j0 ≤ (lr.getD 0 0)) ∧ ((K0.length : Int) = j0) ∧ (OkB la) ∧ (OkC K0) ∧ (pTop l4 = goR sa (pIns (fun K0 l' => pC1 (l4.getD 0 0) (l4.getD 1 0) D K0 l') ((lr.getD 0 0) - j0).toNat K0 la)) ∧ (la.length ≤ l4.length)) (fun ((K0, la, sa, j0) : (List Ins) × (List Int) × (Bool) × (Int)) => ((lr.getD 0 0) - j0).toNat) ([], lr.drop 1, shB sh lr 1, 0) ?_ ?_ ?_
                      · exact ⟨by omega, (get_ok h4 0).1, rfl, h4.drop 1, (fun x hx => by cases hx), by rw [h8]; exact code_step.trans (by rw [show ((lr.getD 0 0) - 0).toNat = (lr.getD 0 0).toNat by omega]), by simp; omega⟩
                      · refine Wk.trans (Wk.vecB 5 2 3 0 (by rfl) (by rfl) (by rfl)) (Wk.to [] [0, 1, 2, 3, 5] hz (by decide) ?_ ?_)
                        · simp (maxSteps := 1000000) (disch := omega) only [go_sem, w64, wU, List.map_append, List.map_cons, List.map_nil, List.cons_append, List.nil_append, List.length_append, List.length_cons, List.length_nil, Nat.le_refl]
                        · simp (maxSteps := 1000000) (disch := omega) only [go_sem, w64, wU, List.map_append, List.map_cons, List.map_nil, List.cons_append, List.nil_append, List.length_append, List.length_cons, List.length_nil, Nat.le_refl]
                      · rintro ⟨K0, la, sa, j0⟩ hF _ ht _ hh
                        simp only [updT, go_sem] at ht hh
                        subst ht; subst hh
                        obtain ⟨a10, a20, a30, a40, a50, a60, a70⟩ := hF
                        refine AW.regR rfl (by simp (maxSteps := 1000000) only [go_sem, listQ, dropQ, q8] <;> exact rfl) (by first | (simp (disch := omega) only [go_sem, w64, wU, listQ, dropQ, q8] <;> exact rfl) | exact rfl) ?_
                        refine AW.seq ?_
                        refine AW.cond (by simp (maxSteps := 1000000) only [go_sem, listQ, dropQ, q8] <;> exact rfl) (fun hc10 => ?_) (fun hc10 => ?_)
                        · try simp only [decide_eq_true_eq, decide_eq_false_iff_not, Bool.or_eq_true, Bool.or_eq_false_iff, Bool.and_eq_true, Bool.and_eq_false_imp, Bool.not_eq_true', Bool.not_eq_false'] at hc10
                          have b10 : 0 ≤ j0 := a10
                          have hcm0 := get_ok h4 0
                          have b20 : IntKind.i64.wrap (j0 + 1) = j0 + 1 := w64 (by omega) (by omega)
                          have b30 : ((K0.length + 1) * 40 ≤ 140737488355328) = True := eq_true (by omega)
                          have b40 : (K0.length + 1 ≤ 140737488355328) = True := eq_true (by omega)
                          have b50 : (K0.length ≤ 140737488355327) = True := eq_true (by omega)
                          have b60 : insOf la = (la.getD 0 0, la.getD 1 0, la.getD 2 0, la.getD 3 0, numW (la.drop 4)) := rfl
                          have q9 := And.intro q8 (And.intro b10 (And.intro hcm0 (And.intro b20 (And.intro b30 (And.intro b40 (And.intro b50 (b60)))))))
                          refine AW.skip ?_
                          show AW _ _ _ _ _
                          refine AW.seq ?_
                          refine AW.block ?_
                          refine AW.regL ?_
                          refine AWL.runG (by simp (maxSteps := 1000000) only [go_sem, listQ, dropQ, q9] <;> exact rfl) ?_
                          refine AWL.one0 (by first | exact okl | assumption | exact okl.drop _ | exact OkB.drop (by assumption) _) rfl (by simp (maxSteps := 1000000) only [go_sem, listQ, dropQ, q9] <;> exact rfl) (by simp (maxSteps := 1000000) only [go_sem, listQ, dropQ, q9] <;> exact rfl) (by simp (maxSteps := 1000000) only [go_sem, listQ, dropQ, q9] <;> exact rfl) (by simp (maxSteps := 1000000) only [go_sem, listQ, dropQ, q9] <;> exact rfl) ?_
                          refine AWL.runG (by simp (maxSteps := 1000000) only [go_sem, listQ, dropQ, q9] <;> exact rfl) ?_
                          refine AWL.oneN 1 (by first | exact okl | assumption | exact okl.drop _ | exact OkB.drop (by assumption) _) rfl (by simp (maxSteps := 1000000) only [go_sem, listQ, dropQ, q9] <;> exact rfl) (by simp (maxSteps := 1000000) only [go_sem, listQ, dropQ, q9] <;> exact rfl) (by simp (maxSteps := 1000000) only [go_sem, listQ, dropQ, q9] <;> exact rfl) (by simp (maxSteps := 1000000) only [go_sem, listQ, dropQ, q9] <;> exact rfl) ?_
                          refine AWL.runG (by simp (maxSteps := 1000000) only [go_sem, listQ, dropQ, q9] <;> exact rfl) ?_
                          refine AWL.oneN 2 (by first | exact okl | assumption | exact okl.drop _ | exact OkB.drop (by assumption) _) rfl (by simp (maxSteps := 1000000) only [go_sem, listQ, dropQ, q9] <;> exact rfl) (by simp (maxSteps := 1000000) only [go_sem, listQ, dropQ, q9] <;> exact rfl) (by simp (maxSteps := 1000000) only [go_sem, listQ, dropQ, q9] <;> exact rfl) (by simp (maxSteps := 1000000) only [go_sem, listQ, dropQ, q9] <;> exact rfl) ?_
                          refine AWL.runG (by simp (maxSteps := 1000000) only [go_sem, listQ, dropQ, q9] <;> exact rfl) ?_
                          refine AWL.oneN 3 (by first | exact okl | assumption | exact okl.drop _ | exact OkB.drop (by assumption) _) rfl (by simp (maxSteps := 1000000) only [go_sem, listQ, dropQ, q9] <;> exact rfl) (by simp (maxSteps := 1000000) only [go_sem, listQ, dropQ, q9] <;> exact rfl) (by simp (maxSteps := 1000000) only [go_sem, listQ, dropQ, q9] <;> exact rfl) (by simp (maxSteps := 1000000) only [go_sem, listQ, dropQ, q9] <;> exact rfl) ?_
                          refine AWL.runG (by simp (maxSteps := 1000000) only [go_sem, listQ, dropQ, q9] <;> exact rfl) ?_
                          refine AWL.fin (by first | (simp (disch := omega) only [go_sem, w64, wU, listQ, dropQ, q9] <;> exact rfl) | exact rfl) ?_
                          refine AW.regL ?_
                          refine AWL.runG (by simp (maxSteps := 1000000) only [go_sem, listQ, dropQ, q9] <;> exact rfl) ?_
                          refine AWL.wordN 4 (by first | exact okl | assumption | exact okl.drop _ | exact OkB.drop (by assumption) _) rfl (by simp (maxSteps := 1000000) only [go_sem, listQ, dropQ, q9] <;> exact rfl) (by simp (maxSteps := 1000000) only [go_sem, listQ, dropQ, q9] <;> exact rfl) (by simp (maxSteps := 1000000) only [go_sem, listQ, dropQ, q9] <;> exact rfl) (by simp (maxSteps := 1000000) only [go_sem, listQ, dropQ, q9] <;> exact rfl) ?_
                          refine AWL.runG (by simp (maxSteps := 1000000) only [go_sem, listQ, dropQ, q9] <;> exact rfl) ?_
                          refine AWL.fin (by first | (simp (disch := omega) only [go_sem, w64, wU, listQ, dropQ, q9] <;> exact rfl) | exact rfl) ?_
                          refine AW.regD1 follows (by kernel_rfl) ?_
                          refine ARE.run1 (by simp (maxSteps := 1000000) only [go_sem, listQ, dropQ, q9] <;> exact rfl) ?_
                          refine ARE.fin1 [0, 0, 0, 6, 14, 0, 32, 126, 0, 511, 1023] _ (by kernel_rfl) (by simp (maxSteps := 1000000) only [go_sem, listQ, dropQ, q9] <;> exact rfl) (by kernel_rfl) (by first | (simp (disch := omega) only [go_sem, w64, wU, listQ, dropQ, q9] <;> exact rfl) | exact rfl) ?_
                          show AW _ _ _ _ _
                          refine AW.regR1 rfl (by simp (maxSteps := 1000000) only [go_sem, listQ, dropQ, q9] <;> exact rfl) (by first | (simp (disch := omega) only [go_sem, w64, wU, listQ, dropQ, q9] <;> exact rfl) | exact rfl) ?_
                          refine ⟨(K0 ++ [insOf la], la.drop 12, shB sa la 12, j0 + 1), ?_, ?_, ?_⟩
                          · (try dsimp only); omega
                          · exact ⟨by (try dsimp only); omega, by (try dsimp only); omega, by simp; omega, a40.drop 12, (fun x hx => (List.mem_append.1 hx).elim (a50 x) (fun q => by rw [List.mem_singleton.1 q]; exact numW_ok (a40.drop 4))), by rw [a60, ins_step (by omega), show (((lr.getD 0 0) - j0).toNat - 1) = ((lr.getD 0 0) - (j0 + 1)).toNat by omega], by simp; omega⟩
                          · refine Wk.to [] [0, 1, 2, 3, 11] hz (by decide) ?_ ?_
                            · simp (maxSteps := 1000000) (disch := omega) only [go_sem, w64, wU, listQ, dropQ, q9]
                            · simp (maxSteps := 1000000) (disch := omega) only [go_sem, w64, wU, listQ, dropQ, q9]
                        · try simp only [decide_eq_true_eq, decide_eq_false_iff_not, Bool.or_eq_true, Bool.or_eq_false_iff, Bool.and_eq_true, Bool.and_eq_false_imp, Bool.not_eq_true', Bool.not_eq_false'] at hc10
                          have c10 : K0.length ≤ 255 := by have := get_ok h4 0; omega
                          have c20 : pTop l4 = goR sa (pC1 (l4.getD 0 0) (l4.getD 1 0) D K0 la) := by rw [a60, ins_end (by omega)]
                          have q10 := And.intro q8 (And.intro c10 (c20))
                          refine AW.exit ?_
                          show AW _ _ _ _ _
                          refine AW.regR1 rfl (by simp (maxSteps := 1000000) only [go_sem, listQ, dropQ, q10] <;> exact rfl) (by first | (simp (disch := omega) only [go_sem, w64, wU, listQ, dropQ, q10] <;> exact rfl) | exact rfl) ?_
                          show ARounds _ _ _ _ _ _
                          refine ARounds.mk ?_
                          refine AW.regR rfl (by simp (maxSteps := 1000000) only [go_sem, listQ, dropQ, q10] <;> exact rfl) (by first | (simp (disch := omega) only [go_sem, w64, wU, listQ, dropQ, q10] <;> exact rfl) | exact rfl) ?_
                          refine AW.seq ?_
                          refine AW.condT (by simp (maxSteps := 1000000) only [go_sem, listQ, dropQ, q10] <;> exact rfl) ?_
                          refine AW.skip ?_
                          show AW _ _ _ _ _
                          refine AW.seq ?_
                          refine AW.block ?_
                          refine AW.regR rfl (by simp (maxSteps := 1000000) only [go_sem, listQ, dropQ, q10] <;> exact rfl) (by first | (simp (disch := omega) only [go_sem, w64, wU, listQ, dropQ, q10] <;> exact rfl) | exact rfl) ?_
                          refine AW.regL ?_
                          refine AWL.runG (by simp (maxSteps := 1000000) only [go_sem, listQ, dropQ, q10] <;> exact rfl) ?_
                          refine AWL.one0 (by first | exact okl | assumption | exact okl.drop _ | exact OkB.drop (by assumption) _) rfl (by simp (maxSteps := 1000000) only [go_sem, listQ, dropQ, q10] <;> exact rfl) (by simp (maxSteps := 1000000) only [go_sem, listQ, dropQ, q10] <;> exact rfl) (by simp (maxSteps := 1000000) only [go_sem, listQ, dropQ, q10] <;> exact rfl) (by simp (maxSteps := 1000000) only [go_sem, listQ, dropQ, q10] <;> exact rfl) ?_
                          refine AWL.runG (by simp (maxSteps := 1000000) only [go_sem, listQ, dropQ, q10] <;> exact rfl) ?_
                          refine AWL.fin (by first | (simp (disch := omega) only [go_sem, w64, wU, listQ, dropQ, q10] <;> exact rfl) | exact rfl) ?_
                          refine AW.block ?_
                          refine AW.loopV (α := (List Ins) × (List Int) × (Bool) × (Int)) (fun ((K1, lb, sb, j1) : (List Ins) × (List Int) × (Bool) × (Int)) => [(8, .any), (54, .pv (.int .i64 j1)), (55, .any), (56, .any), (57, .any), (58, .any), (59, .any), (60, .any), (61, .any), (62, .any), (63, .any), (64, .any), (65, .any), (66, .any), (67, .any), (68, .any), (69, .any), (70, .any), (71, .any), (72, .any), (73, .any), (74, .any), (75, .any), (76, .any), (77, .any), (78, .any)]) (fun ((K1, lb, sb, j1) : (List Ins) × (List Int) × (Bool) × (Int)) => [.box [.pv (.int .i64 0), .pv (.int .i64 0), .pv (.lst true 0 []), .pv (.lst true 0 []), .pv (.lst true 0 []), .pv (.lst true 0 [])], .box [.pv (.str (strOf lb)), .pv (.bool sb)], .box [.pv (.int .i64 (l4.getD 0 0)), .pv (.int .i64 (l4.getD 1 0)), .vs 3 0 D.length, .vs 4 0 K0.length, .vs 5 0 K1.length, .pv (.lst true 0 [])], .vec 1 (D.map wdR), .vec 5 (K0.map inR), .vec 5 (K1.map inR)]) (fun ((K1, lb, sb, j1) : (List Ins) × (List Int) × (Bool) × (Int)) => (0 ≤ j1) ∧ (j1 ≤ (la.getD 0 0)) ∧ ((K1.length : Int) = j1) ∧ (OkB lb) ∧ (OkC K1) ∧ (pTop l4 = goR sb (pIns (fun K1 l' => pC2 (l4.getD 0 0) (l4.getD 1 0) D K0 K1 l') ((la.getD 0 0) - j1).toNat K1 lb)) ∧ (lb.length ≤ l4.length)) (fun ((K1, lb, sb, j1) : (List Ins) × (List Int) × (Bool) × (Int)) => ((la.getD 0 0) - j1).toNat) ([], la.drop 1, shB sa la 1, 0) ?_ ?_ ?_
                          · exact ⟨by omega, (get_ok a40 0).1, rfl, a40.drop 1, (fun x hx => by cases hx), by rw [c20]; exact code_step.trans (by rw [show ((la.getD 0 0) - 0).toNat = (la.getD 0 0).toNat by omega]), by simp; omega⟩
                          · refine Wk.trans (Wk.vecB 5 2 4 0 (by rfl) (by rfl) (by rfl)) (Wk.to [] [0, 1, 2, 3, 4, 6] hz (by decide) ?_ ?_)
                            · simp (maxSteps := 1000000) (disch := omega) only [go_sem, w64, wU, List.map_append, List.map_cons, List.map_nil, List.cons_append, List.nil_append, List.length_append, List.length_cons, List.length_nil, Nat.le_refl]
                            · simp (maxSteps := 1000000) (disch := omega) only [go_sem, w64, wU, List.map_append, List.map_cons, List.map_nil, List.cons_append, List.nil_append, List.length_append, List.length_cons, List.length_nil, Nat.le_refl]
                          · rintro ⟨K1, lb, sb, j1⟩ hF _ ht _ hh
                            simp only [updT, go_sem] at ht hh
                            subst ht; subst hh
                            obtain ⟨a11, a21, a31, a41, a51, a61, a71⟩ := hF
                            refine AW.regR rfl (by simp (maxSteps := 1000000) only [go_sem, listQ, dropQ, q10] <;> exact rfl) (by first | (simp (disch := omega) only [go_sem, w64, wU, listQ, dropQ, q10] <;> exact rfl) | exact rfl) ?_
                            refine AW.seq ?_
                            refine AW.cond (by simp (maxSteps := 1000000) only [go_sem, listQ, dropQ, q10] <;> exact rfl) (fun hc11 => ?_) (fun hc11 => ?_)
                            · try simp only [decide_eq_true_eq, decide_eq_false_iff_not, Bool.or_eq_true, Bool.or_eq_false_iff, Bool.and_eq_true, Bool.and_eq_false_imp, Bool.not_eq_true', Bool.not_eq_false'] at hc11
                              have b11 : 0 ≤ j1 := a11
                              have hcm1 := get_ok a40 0
                              have b21 : IntKind.i64.wrap (j1 + 1) = j1 + 1 := w64 (by omega) (by omega)
                              have b31 : ((K1.length + 1) * 40 ≤ 140737488355328) = True := eq_true (by omega)
                              have b41 : (K1.length + 1 ≤ 140737488355328) = True := eq_true (by omega)
                              have b51 : (K1.length ≤ 140737488355327) = True := eq_true (by omega)
                              have b61 : insOf lb = (lb.getD 0 0, lb.getD 1 0, lb.getD 2 0, lb.getD 3 0, numW (lb.drop 4)) := rfl
                              have q11 := And.intro q10 (And.intro b11 (And.intro hcm1 (And.intro b21 (And.intro b31 (And.intro b41 (And.intro b51 (b61)))))))
                              refine AW.skip ?_
                              show AW _ _ _ _ _
                              refine AW.seq ?_
                              refine AW.block ?_
                              refine AW.regL ?_
                              refine AWL.runG (by simp (maxSteps := 1000000) only [go_sem, listQ, dropQ, q11] <;> exact rfl) ?_
                              refine AWL.one0 (by first | exact okl | assumption | exact okl.drop _ | exact OkB.drop (by assumption) _) rfl (by simp (maxSteps := 1000000) only [go_sem, listQ, dropQ, q11] <;> exact rfl) (by simp (maxSteps := 1000000) only [go_sem, listQ, dropQ, q11] <;> exact rfl) (by simp (maxSteps := 1000000) only [go_sem, listQ, dropQ, q11] <;> exact rfl) (by simp (maxSteps := 1000000) only [go_sem, listQ, dropQ, q11] <;> exact rfl) ?_
                              refine AWL.runG (by simp (maxSteps := 1000000) only [go_sem, listQ, dropQ, q11] <;> exact rfl) ?_
                              refine AWL.oneN 1 (by first | exact okl | assumption | exact okl.drop _ | exact OkB.drop (by assumption) _) rfl (by simp (maxSteps := 1000000) only [go_sem, listQ, dropQ, q11] <;> exact rfl) (by simp (maxSteps := 1000000) only [go_sem, listQ, dropQ, q11] <;> exact rfl) (by simp (maxSteps := 1000000) only [go_sem, listQ, dropQ, q11] <;> exact rfl) (by simp (maxSteps := 1000000) only [go_sem, listQ, dropQ, q11] <;> exact rfl) ?_
                              refine AWL.runG (by simp (maxSteps := 1000000) only [go_sem, listQ, dropQ, q11] <;> exact rfl) ?_
                              refine AWL.oneN 2 (by first | exact okl | assumption | exact okl.drop _ | exact OkB.drop (by assumption) _) rfl (by simp (maxSteps := 1000000) only [go_sem, listQ, dropQ, q11] <;> exact rfl) (by simp (maxSteps := 1000000) only [go_sem, listQ, dropQ, q11] <;> exact rfl) (by simp (maxSteps := 1000000) only [go_sem, listQ, dropQ, q11] <;> exact rfl) (by simp (maxSteps := 1000000) only [go_sem, listQ, dropQ, q11] <;> exact rfl) ?_
                              refine AWL.runG (by simp (maxSteps := 1000000) only [go_sem, listQ, dropQ, q11] <;> exact rfl) ?_
                              refine AWL.oneN 3 (by first | exact okl | assumption | exact okl.drop _ | exact OkB.drop (by assumption) _) rfl (by simp (maxSteps := 1000000) only [go_sem, listQ, dropQ, q11] <;> exact rfl) (by simp (maxSteps := 1000000) only [go_sem, listQ, dropQ, q11] <;> exact rfl) (by simp (maxSteps := 1000000) only [go_sem, listQ, dropQ, q11] <;> exact rfl) (by simp (maxSteps := 1000000) only [go_sem, listQ, dropQ, q11] <;> exact rfl) ?_
                              refine AWL.runG (by simp (maxSteps := 1000000) only [go_sem, listQ, dropQ, q11] <;> exact rfl) ?_
                              refine AWL.fin (by first | (simp (disch := omega) only [go_sem, w64, wU, listQ, dropQ, q11] <;> exact rfl) | exact rfl) ?_
                              refine AW.regL ?_
                              refine AWL.runG (by simp (maxSteps := 1000000) only [go_sem, listQ, dropQ, q11] <;> exact rfl) ?_
                              refine AWL.wordN 4 (by first | exact okl | assumption | exact okl.drop _ | exact OkB.drop (by assumption) _) rfl (by simp (maxSteps := 1000000) only [go_sem, listQ, dropQ, q11] <;> exact rfl) (by simp (maxSteps := 1000000) only [go_sem, listQ, dropQ, q11] <;> exact rfl) (by simp (maxSteps := 1000000) only [go_sem, listQ, dropQ, q11] <;> exact rfl) (by simp (maxSteps := 1000000) only [go_sem, listQ, dropQ, q11] <;> exact rfl) ?_
                              refine AWL.runG (by simp (maxSteps := 1000000) only [go_sem, listQ, dropQ, q11] <;> exact rfl) ?_
                              refine AWL.fin (by first | (simp (disch := omega) only [go_sem, w64, wU, listQ, dropQ, q11] <;> exact rfl) | exact rfl) ?_
                              refine AW.regD1 follows (by kernel_rfl) ?_
                              refine ARE.run1 (by simp (maxSteps := 1000000) only [go_sem, listQ, dropQ, q11] <;> exact rfl) ?_
                              refine ARE.fin1 [0, 0, 0, 6, 14, 0, 32, 126, 0, 511, 1023] _ (by kernel_rfl) (by simp (maxSteps := 1000000) only [go_sem, listQ, dropQ, q11] <;> exact rfl) (by kernel_rfl) (by first | (simp (disch := omega) only [go_sem, w64, wU, listQ, dropQ, q11] <;> exact rfl) | exact rfl) ?_
                              show AW _ _ _ _ _
                              refine AW.regR1 rfl (by simp (maxSteps := 1000000) only [go_sem, listQ, dropQ, q11] <;> exact rfl) (by first | (simp (disch := omega) only [go_sem, w64, wU, listQ, dropQ, q11] <;> exact rfl) | exact rfl) ?_
                              refine ⟨(K1 ++ [insOf lb], lb.drop 12, shB sb lb 12, j1 + 1), ?_, ?_, ?_⟩
                              · (try dsimp only); omega
                              · exact ⟨by (try dsimp only); omega, by (try dsimp only); omega, by simp; omega, a41.drop 12, (fun x hx => (List.mem_append.1 hx).elim (a51 x) (fun q => by rw [List.mem_singleton.1 q]; exact numW_ok (a41.drop 4))), by rw [a61, ins_step (by omega), show (((la.getD 0 0) - j1).toNat - 1) = ((la.getD 0 0) - (j1 + 1)).toNat by omega], by simp; omega⟩
                              · refine Wk.to [] [0, 1, 2, 3, 4, 12] hz (by decide) ?_ ?_
                                · simp (maxSteps := 1000000) (disch := omega) only [go_sem, w64, wU, listQ, dropQ, q11]
                                · simp (maxSteps := 1000000) (disch := omega) only [go_sem, w64, wU, listQ, dropQ, q11]
                            · try simp only [decide_eq_true_eq, decide_eq_false_iff_not, Bool.or_eq_true, Bool.or_eq_false_iff, Bool.and_eq_true, Bool.and_eq_false_imp, Bool.not_eq_true', Bool.not_eq_false'] at hc11
                              have c11 : K1.length ≤ 255 := by have := get_ok a40 0; omega
                              have c19 : pTop l4 = goR sb (pC2 (l4.getD 0 0) (l4.getD 1 0) D K0 K1 lb) := by rw [a61, ins_end (by omega)]
                              have q12 := And.intro q10 (And.intro c11 (c19))
                              refine AW.exit ?_
                              show AW _ _ _ _ _
                              refine AW.regR1 rfl (by simp (maxSteps := 1000000) only [go_sem, listQ, dropQ, q12] <;> exact rfl) (by first | (simp (disch := omega) only [go_sem, w64, wU, listQ, dropQ, q12] <;> exact rfl) | exact rfl) ?_
                              show ARounds _ _ _ _ _ _
                              refine ARounds.mk ?_
                              refine AW.regR rfl (by simp (maxSteps := 1000000) only [go_sem, listQ, dropQ, q12] <;> exact rfl) (by first | (simp (disch := omega) only [go_sem, w64, wU, listQ, dropQ, q12] <;> exact rfl) | exact rfl) ?_
                              refine AW.seq ?_
                              refine AW.condT (by simp (maxSteps := 1000000) only [go_sem, listQ, dropQ, q12] <;> exact rfl) ?_
                              refine AW.skip ?_
                              show AW _ _ _ _ _
                              refine AW.seq ?_
                              refine AW.block ?_
                              refine AW.regR rfl (by simp (maxSteps := 1000000) only [go_sem, listQ, dropQ, q12] <;> exact rfl) (by first | (simp (disch := omega) only [go_sem, w64, wU, listQ, dropQ, q12] <;> exact rfl) | exact rfl) ?_
                              refine AW.regL ?_
                              refine AWL.runG (by simp (maxSteps := 1000000) only [go_sem, listQ, dropQ, q12] <;> exact rfl) ?_
                              refine AWL.one0 (by first | exact okl | assumption | exact okl.drop _ | exact OkB.drop (by assumption) _) rfl (by simp (maxSteps := 1000000) only [go_sem, listQ, dropQ, q12] <;> exact rfl) (by simp (maxSteps := 1000000) only [go_sem, listQ, dropQ, q12] <;> exact rfl) (by simp (maxSteps := 1000000) only [go_sem, listQ, dropQ, q12] <;> exact rfl) (by simp (maxSteps := 1000000) only [go_sem, listQ, dropQ, q12] <;> exact rfl) ?_
                              refine AWL.runG (by simp (maxSteps := 1000000) only [go_sem, listQ, dropQ, q12] <;> exact rfl) ?_
                              refine AWL.fin (by first | (simp (disch := omega) only [go_sem, w64, wU, listQ, dropQ, q12] <;> exact rfl) | exact rfl) ?_
                              refine AW.block ?_
                              refine AW.loopV (α := (List Ins) × (List Int) × (Bool) × (Int)) (fun ((K2, lc, sc, j2) : (List Ins) × (List Int) × (Bool) × (Int)) => [(8, .any), (54, .pv (.int .i64 j2)), (55, .any), (56, .any), (57, .any), (58, .any), (59, .any), (60, .any), (61, .any), (62, .any), (63, .any), (64, .any), (65, .any), (66, .any), (67, .any), (68, .any), (69, .any), (70, .any), (71, .any), (72, .any), (73, .any), (74, .any), (75, .any), (76, .any), (77, .any), (78, .any)]) (fun ((K2, lc, sc, j2) : (List Ins) × (List Int) × (Bool) × (Int)) => [.box [.pv (.int .i64 0), .pv (.int .i64 0), .pv (.lst true 0 []), .pv (.lst true 0 []), .pv (.lst true 0 []), .pv (.lst true 0 [])], .box [.pv (.str (strOf lc)), .pv (.bool sc)], .box [.pv (.int .i64 (l4.getD 0 0)), .pv (.int .i64 (l4.getD 1 0)), .vs 3 0 D.length, .vs 4 0 K0.length, .vs 5 0 K1.length, .vs 6 0 K2.length], .vec 1 (D.map wdR), .vec 5 (K0.map inR), .vec 5 (K1.map inR), .vec 5 (K2.map inR)]) (fun ((K2, lc, sc, j2) : (List Ins) × (List Int) × (Bool) × (Int)) => (0 ≤ j2) ∧ (j2 ≤ (lb.getD 0 0)) ∧ ((K2.length : Int) = j2) ∧ (OkB lc) ∧ (OkC K2) ∧ (pTop l4 = goR sc (pIns (fun K2 l' => pEnd ⟨(l4.getD 0 0), (l4.getD 1 0), D, K0, K1, K2⟩ l') ((lb.getD 0 0) - j2).toNat K2 lc)) ∧ (lc.length ≤ l4.length)) (fun ((K2, lc, sc, j2) : (List Ins) × (List Int) × (Bool) × (Int)) => ((lb.getD 0 0) - j2).toNat) ([], lb.drop 1, shB sb lb 1, 0) ?_ ?_ ?_
                              · exact ⟨by omega, (get_ok a41 0).1, rfl, a41.drop 1, (fun x hx => by cases hx), by rw [c19]; exact code_step.trans (by rw [show ((lb.getD 0 0) - 0).toNat = (lb.getD 0 0).toNat by omega]), by simp; omega⟩
                              · refine Wk.trans (Wk.vecB 5 2 5 0 (by rfl) (by rfl) (by rfl)) (Wk.to [] [0, 1, 2, 3, 4, 5, 7] hz (by decide) ?_ ?_)
                                · simp (maxSteps := 1000000) (disch := omega) only [go_sem, w64, wU, List.map_append, List.map_cons, List.map_nil, List.cons_append, List.nil_append, List.length_append, List.length_cons, List.length_nil, Nat.le_refl]
                                · simp (maxSteps := 1000000) (disch := omega) only [go_sem, w64, wU, List.map_append, List.map_cons, List.map_nil, List.cons_append, List.nil_append, List.length_append, List.length_cons, List.length_nil, Nat.le_refl]
                              · rintro ⟨K2, lc, sc, j2⟩ hF _ ht _ hh
                                simp only [updT, go_sem] at ht hh
                                subst ht; subst hh
                                obtain ⟨a12, a22, a32, a42, a52, a62, a72⟩ := hF
                                refine AW.regR rfl (by simp (maxSteps := 1000000) only [go_sem, listQ, dropQ, q12] <;> exact rfl) (by first | (simp (disch := omega) only [go_sem, w64, wU, listQ, dropQ, q12] <;> exact rfl) | exact rfl) ?_
                                refine AW.seq ?_
                                refine AW.cond (by simp (maxSteps := 1000000) only [go_sem, listQ, dropQ, q12] <;> exact rfl) (fun hc12 => ?_) (fun hc12 => ?_)
                                · try simp only [decide_eq_true_eq, decide_eq_false_iff_not, Bool.or_eq_true, Bool.or_eq_false_iff, Bool.and_eq_true, Bool.and_eq_false_imp, Bool.not_eq_true', Bool.not_eq_false'] at hc12
                                  have b12 : 0 ≤ j2 := a12
                                  have hcm2 := get_ok a41 0
                                  have b22 : IntKind.i64.wrap (j2 + 1) = j2 + 1 := w64 (by omega) (by omega)
                                  have b32 : ((K2.length + 1) * 40 ≤ 140737488355328) = True := eq_true (by omega)
                                  have b42 : (K2.length + 1 ≤ 140737488355328) = True := eq_true (by omega)
                                  have b52 : (K2.length ≤ 140737488355327) = True := eq_true (by omega)
                                  have b62 : insOf lc = (lc.getD 0 0, lc.getD 1 0, lc.getD 2 0, lc.getD 3 0, numW (lc.drop 4)) := rfl
                                  have q13 := And.intro q12 (And.intro b12 (And.intro hcm2 (And.intro b22 (And.intro b32 (And.intro b42 (And.intro b52 (b62)))))))
                                  refine AW.skip ?_
                                  show AW _ _ _ _ _
                                  refine AW.seq ?_
                                  refine AW.block ?_
                                  refine AW.regL ?_
                                  refine AWL.runG (by simp (maxSteps := 1000000) only [go_sem, listQ, dropQ, q13] <;> exact rfl) ?_
                                  refine AWL.one0 (by first | exact okl | assumption | exact okl.drop _ | exact OkB.drop (by assumption) _) rfl (by simp (maxSteps := 1000000) only [go_sem, listQ, dropQ, q13] <;> exact rfl) (by simp (maxSteps := 1000000) only [go_sem, listQ, dropQ, q13] <;> exact rfl) (by simp (maxSteps := 1000000) only [go_sem, listQ, dropQ, q13] <;> exact rfl) (by simp (maxSteps := 1000000) only [go_sem, listQ, dropQ, q13] <;> exact rfl) ?_
                                  refine AWL.runG (by simp (maxSteps := 1000000) only [go_sem, listQ, dropQ, q13] <;> exact rfl) ?_
                                  refine AWL.oneN 1 (by first | exact okl | assumption | exact okl.drop _ | exact OkB.drop (by assumption) _) rfl (by simp (maxSteps := 1000000) only [go_sem, listQ, dropQ, q13] <;> exact rfl) (by simp (maxSteps := 1000000) only [go_sem, listQ, dropQ, q13] <;> exact rfl) (by simp (maxSteps := 1000000) only [go_sem, listQ, dropQ, q13] <;> exact rfl) (by simp (maxSteps := 1000000) only [go_sem, listQ, dropQ, q13] <;> exact rfl) ?_
                                  refine AWL.runG (by simp (maxSteps := 1000000) only [go_sem, listQ, dropQ, q13] <;> exact rfl) ?_
                                  refine AWL.oneN 2 (by first | exact okl | assumption | exact okl.drop _ | exact OkB.drop (by assumption) _) rfl (by simp (maxSteps := 1000000) only [go_sem, listQ, dropQ, q13] <;> exact rfl) (by simp (maxSteps := 1000000) only [go_sem, listQ, dropQ, q13] <;> exact rfl) (by simp (maxSteps := 1000000) only [go_sem, listQ, dropQ, q13] <;> exact rfl) (by simp (maxSteps := 1000000) only [go_sem, listQ, dropQ, q13] <;> exact rfl) ?_
                                  refine AWL.runG (by simp (maxSteps := 1000000) only [go_sem, listQ, dropQ, q13] <;> exact rfl) ?_
                                  refine AWL.oneN 3 (by first | exact okl | assumption | exact okl.drop _ | exact OkB.drop (by assumption) _) rfl (by simp (maxSteps := 1000000) only [go_sem, listQ, dropQ, q13] <;> exact rfl) (by simp (maxSteps := 1000000) only [go_sem, listQ, dropQ, q13] <;> exact rfl) (by simp (maxSteps := 1000000) only [go_sem, listQ, dropQ, q13] <;> exact rfl) (by simp (maxSteps := 1000000) only [go_sem, listQ, dropQ, q13] <;> exact rfl) ?_
                                  refine AWL.runG (by simp (maxSteps := 1000000) only [go_sem, listQ, dropQ, q13] <;> exact rfl) ?_
                                  refine AWL.fin (by first | (simp (disch := omega) only [go_sem, w64, wU, listQ, dropQ, q13] <;> exact rfl) | exact rfl) ?_
                                  refine AW.regL ?_
                                  refine AWL.runG (by simp (maxSteps := 1000000) only [go_sem, listQ, dropQ, q13] <;> exact rfl) ?_
                                  refine AWL.wordN 4 (by first | exact okl | assumption | exact okl.drop _ | exact OkB.drop (by assumption) _) rfl (by simp (maxSteps := 1000000) only [go_sem, listQ, dropQ, q13] <;> exact rfl) (by simp (maxSteps := 1000000) only [go_sem, listQ, dropQ, q13] <;> exact rfl) (by simp (maxSteps := 1000000) only [go_sem, listQ, dropQ, q13] <;> exact rfl) (by simp (maxSteps := 1000000) only [go_sem, listQ, dropQ, q13] <;> exact rfl) ?_
                                  refine AWL.runG (by simp (maxSteps := 1000000) only [go_sem, listQ, dropQ, q13] <;> exact rfl) ?_
                                  refine AWL.fin (by first | (simp (disch := omega) only [go_sem, w64, wU, listQ, dropQ, q13] <;> exact rfl) | exact rfl) ?_
                                  refine AW.regD1 follows (by kernel_rfl) ?_
                                  refine ARE.run1 (by simp (maxSteps := 1000000) only [go_sem, listQ, dropQ, q13] <;> exact rfl) ?_
                                  refine ARE.fin1 [0, 0, 0, 6, 14, 0, 32, 126, 0, 511, 1023] _ (by kernel_rfl) (by simp (maxSteps := 1000000) only [go_sem, listQ, dropQ, q13] <;> exact rfl) (by kernel_rfl) (by first | (simp (disch := omega) only [go_sem, w64, wU, listQ, dropQ, q13] <;> exact rfl) | exact rfl) ?_
                                  show AW _ _ _ _ _
                                  refine AW.regR1 rfl (by simp (maxSteps := 1000000) only [go_sem, listQ, dropQ, q13] <;> exact rfl) (by first | (simp (disch := omega) only [go_sem, w64, wU, listQ, dropQ, q13] <;> exact rfl) | exact rfl) ?_
                                  refine ⟨(K2 ++ [insOf lc], lc.drop 12, shB sc lc 12, j2 + 1), ?_, ?_, ?_⟩
                                  · (try dsimp only); omega
                                  · exact ⟨by (try dsimp only); omega, by (try dsimp only); omega, by simp; omega, a42.drop 12, (fun x hx => (List.mem_append.1 hx).elim (a52 x) (fun q => by rw [List.mem_singleton.1 q]; exact numW_ok (a42.drop 4))), by rw [a62, ins_step (by omega), show (((lb.getD 0 0) - j2).toNat - 1) = ((lb.getD 0 0) - (j2 + 1)).toNat by omega], by simp; omega⟩
                                  · refine Wk.to [] [0, 1, 2, 3, 4, 5, 13] hz (by decide) ?_ ?_
                                    · simp (maxSteps := 1000000) (disch := omega) only [go_sem, w64, wU, listQ, dropQ, q13]
                                    · simp (maxSteps := 1000000) (disch := omega) only [go_sem, w64, wU, listQ, dropQ, q13]
                                · try simp only [decide_eq_true_eq, decide_eq_false_iff_not, Bool.or_eq_true, Bool.or_eq_false_iff, Bool.and_eq_true, Bool.and_eq_false_imp, Bool.not_eq_true', Bool.not_eq_false'] at hc12
                                  have c17 : K2.length ≤ 255 := by have := get_ok a41 0; omega
                                  have c20 : pTop l4 = goR sc (pEnd ⟨(l4.getD 0 0), (l4.getD 1 0), D, K0, K1, K2⟩ lc) := by rw [a62, ins_end (by omega)]
                                  have q14 := And.intro q12 (And.intro c17 (c20))
                                  refine AW.exit ?_
                                  show AW _ _ _ _ _
                                  refine AW.regR1 rfl (by simp (maxSteps := 1000000) only [go_sem, listQ, dropQ, q14] <;> exact rfl) (by first | (simp (disch := omega) only [go_sem, w64, wU, listQ, dropQ, q14] <;> exact rfl) | exact rfl) ?_
                                  show ARounds _ _ _ _ _ _
                                  refine ARounds.mk ?_
                                  refine AW.regR rfl (by simp (maxSteps := 1000000) only [go_sem, listQ, dropQ, q14] <;> exact rfl) (by first | (simp (disch := omega) only [go_sem, w64, wU, listQ, dropQ, q14] <;> exact rfl) | exact rfl) ?_
                                  refine AW.seq ?_
                                  refine AW.condF (by simp (maxSteps := 1000000) only [go_sem, listQ, dropQ, q14] <;> exact rfl) ?_
                                  refine AW.exit ?_
                                  show AW _ _ _ _ _
                                  refine AW.seq ?_
                                  refine AW.block ?_
                                  refine AW.regR rfl (by simp (maxSteps := 1000000) only [go_sem, listQ, dropQ, q14] <;> exact rfl) (by first | (simp (disch := omega) only [go_sem, w64, wU, listQ, dropQ, q14] <;> exact rfl) | exact rfl) ?_
                                  refine AW.cond (by simp (maxSteps := 1000000) only [go_sem, listQ, dropQ, q14] <;> exact rfl) (fun hc13 => ?_) (fun hc13 => ?_)
                                  · try simp only [decide_eq_true_eq, decide_eq_false_iff_not, Bool.or_eq_true, Bool.or_eq_false_iff, Bool.and_eq_true, Bool.and_eq_false_imp, Bool.not_eq_true', Bool.not_eq_false'] at hc13
                                    refine AW.regR rfl (by simp (maxSteps := 1000000) only [go_sem, listQ, dropQ, q14] <;> exact rfl) (by first | (simp (disch := omega) only [go_sem, w64, wU, listQ, dropQ, q14] <;> exact rfl) | exact rfl) ?_
                                    refine retK.fin rfl (by simp (maxSteps := 1000000) only [go_sem, listQ, dropQ, q14] <;> exact rfl) (by simp (maxSteps := 1000000) only [go_sem, listQ, dropQ, q14] <;> exact rfl) ?_
                                    rw [read_mag, c20, show sc = true by simpa using hc13]
                                    exact Sub.tup ⟨sub_pg0, Sub.refl _, trivial⟩
                                  · try simp only [decide_eq_true_eq, decide_eq_false_iff_not, Bool.or_eq_true, Bool.or_eq_false_iff, Bool.and_eq_true, Bool.and_eq_false_imp, Bool.not_eq_true', Bool.not_eq_false'] at hc13
                                    refine AW.regR rfl (by simp (maxSteps := 1000000) only [go_sem, listQ, dropQ, q14] <;> exact rfl) (by first | (simp (disch := omega) only [go_sem, w64, wU, listQ, dropQ, q14] <;> exact rfl) | exact rfl) ?_
                                    refine AW.cond (by simp (maxSteps := 1000000) only [go_sem, listQ, dropQ, q14] <;> exact rfl) (fun hc14 => ?_) (fun hc14 => ?_)
                                    · try simp only [decide_eq_true_eq, decide_eq_false_iff_not, Bool.or_eq_true, Bool.or_eq_false_iff, Bool.and_eq_true, Bool.and_eq_false_imp, Bool.not_eq_true', Bool.not_eq_false'] at hc14
                                      refine AW.regR rfl (by simp (maxSteps := 1000000) only [go_sem, listQ, dropQ, q14] <;> exact rfl) (by first | (simp (disch := omega) only [go_sem, w64, wU, listQ, dropQ, q14] <;> exact rfl) | exact rfl) ?_
                                      refine retK.fin rfl (by simp (maxSteps := 1000000) only [go_sem, listQ, dropQ, q14] <;> exact rfl) (by simp (maxSteps := 1000000) only [go_sem, listQ, dropQ, q14] <;> exact rfl) ?_
                                      rw [read_mag, c20, show sc = false by simpa using hc13, end_more (fun q => by rw [q] at hc14; exact absurd rfl hc14)]
                                      exact Sub.tup ⟨sub_pg0, Sub.refl _, trivial⟩
                                    · try simp only [decide_eq_true_eq, decide_eq_false_iff_not, Bool.or_eq_true, Bool.or_eq_false_iff, Bool.and_eq_true, Bool.and_eq_false_imp, Bool.not_eq_true', Bool.not_eq_false'] at hc14
                                      refine AW.skip ?_
                                      show AW _ _ _ _ _
                                      refine AW.regR rfl (by simp (maxSteps := 1000000) only [go_sem, listQ, dropQ, q14] <;> exact rfl) (by first | (simp (disch := omega) only [go_sem, w64, wU, listQ, dropQ, q14] <;> exact rfl) | exact rfl) ?_
                                      refine retK.fin rfl (by simp (maxSteps := 1000000) only [go_sem, listQ, dropQ, q14] <;> exact rfl) (by simp (maxSteps := 1000000) only [go_sem, listQ, dropQ, q14] <;> exact rfl) (.of ?_)
                                      have hnil := strOf_nil (by simpa using hc14)
                                      subst hnil
                                      rw [read_mag, c20, show sc = false by simpa using hc13]
                                      rw [List.take_of_length_le (l := List.map wdR D) (by simp), List.take_of_length_le (l := List.map inR K0) (by simp), List.take_of_length_le (l := List.map inR K1) (by simp), List.take_of_length_le (l := List.map inR K2) (by simp)]
                                      rfl
end Go.Ab.Tryd
