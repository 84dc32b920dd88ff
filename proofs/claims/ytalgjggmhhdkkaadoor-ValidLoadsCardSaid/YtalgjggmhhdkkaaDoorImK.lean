/- Programs as bytes: the document's Read. -/
import Derived.Test.YtalgjggmhhdkkaaDoorImI
import Derived.Test.YtalgjggmhhdkkaaDoorMI
import Derived.Test.YtalgjggmhhdkkaaDoorMF
namespace Go.Ab.Tryd
open Go.Proofs Go.Ab
set_option linter.unusedVariables false
set_option linter.unusedSimpArgs false
set_option linter.unnecessarySimpa false
set_option maxRecDepth 100000
set_option maxHeartbeats 4000000 in
theorem c18 (l : List Int) (ok : OkB l) (hlen : l.length ≤ 100000) : PC Tryd.prog 18 [.str (strOf l)] (.tup [pgV (readL l).1, .int .i64 (readL l).2]) := by
  refine PC.start 140 Tryd.call18 Tryd.func18 rfl Tryd.ntmps18 Tryd.results18 (by simp only [go_sem]; exact rfl) fun z hz => ?_
  have hbt := bat_strOf ok
  have hm0 : bat ⟨#[66, 87, 75, 49]⟩ 0 = 66 := rfl
  have hm1 : bat ⟨#[66, 87, 75, 49]⟩ 1 = 87 := rfl
  have hm2 : bat ⟨#[66, 87, 75, 49]⟩ 2 = 75 := rfl
  have hm3 : bat ⟨#[66, 87, 75, 49]⟩ 3 = 49 := rfl
  have q1 := And.intro hbt (And.intro hm0 (And.intro hm1 (And.intro hm2 (hm3))))
  refine AW.regR rfl (by simp (maxSteps := 1000000) only [go_sem, listQ, q1] <;> exact rfl) (by first | (simp (disch := omega) only [go_sem, w64, wU, listQ, q1] <;> exact rfl) | exact rfl) ?_
  refine AW.regR rfl (by simp (maxSteps := 1000000) only [go_sem, listQ, q1] <;> exact rfl) (by first | (simp (disch := omega) only [go_sem, w64, wU, listQ, q1] <;> exact rfl) | exact rfl) ?_
  refine AW.seq ?_
  refine AW.regR rfl (by simp (maxSteps := 1000000) only [go_sem, listQ, q1] <;> exact rfl) (by first | (simp (disch := omega) only [go_sem, w64, wU, listQ, q1] <;> exact rfl) | exact rfl) ?_
  refine AW.block ?_
  refine AW.rounds 5 ?_
  refine ARounds.mk ?_
  refine AW.seq ?_
  refine AW.regR rfl (by simp (maxSteps := 1000000) only [go_sem, listQ, q1] <;> exact rfl) (by first | (simp (disch := omega) only [go_sem, w64, wU, listQ, q1] <;> exact rfl) | exact rfl) ?_
  refine AW.condT (by simp (maxSteps := 1000000) only [go_sem, listQ, q1] <;> exact rfl) ?_
  refine AW.skip ?_
  show AW _ _ _ _ _
  refine AW.seq ?_
  refine AW.block ?_
  refine AW.seq ?_
  refine AW.regR rfl (by simp (maxSteps := 1000000) only [go_sem, listQ, q1] <;> exact rfl) (by first | (simp (disch := omega) only [go_sem, w64, wU, listQ, q1] <;> exact rfl) | exact rfl) ?_
  refine AW.cond (by simp (maxSteps := 1000000) only [go_sem, listQ, q1] <;> exact rfl) (fun hc1 => ?_) (fun hc1 => ?_)
  · try simp only [decide_eq_true_eq, decide_eq_false_iff_not, Bool.or_eq_true, Bool.or_eq_false_iff, Bool.and_eq_true, Bool.and_eq_false_imp, Bool.not_eq_true', Bool.not_eq_false'] at hc1
    refine AW.regR rfl (by simp (maxSteps := 1000000) only [go_sem, listQ, q1] <;> exact rfl) (by first | (simp (disch := omega) only [go_sem, w64, wU, listQ, q1] <;> exact rfl) | exact rfl) ?_
    refine retK.fin rfl (by simp (maxSteps := 1000000) only [go_sem, listQ, q1] <;> exact rfl) (by simp (maxSteps := 1000000) only [go_sem, listQ, q1] <;> exact rfl) ?_
    rw [mag_short (i := 0) (by decide) (by omega) (fun j hj => by (have : False := by omega); exact this.elim)]
    exact Sub.tup ⟨sub_pg0, Sub.refl _, trivial⟩
  · try simp only [decide_eq_true_eq, decide_eq_false_iff_not, Bool.or_eq_true, Bool.or_eq_false_iff, Bool.and_eq_true, Bool.and_eq_false_imp, Bool.not_eq_true', Bool.not_eq_false'] at hc1
    have hi0 : 0 < l.length := by omega
    have hj0 : ((0 : Int) < (l.length : Int)) = True := eq_true (by omega)
    have q2 := And.intro q1 (And.intro hi0 (hj0))
    refine AW.skip ?_
    show AW _ _ _ _ _
    refine AW.regDS follows (by kernel_rfl) ?_
    refine ARE.run1 (by simp (maxSteps := 1000000) only [go_sem, listQ, q2] <;> exact rfl) ?_
    refine ARE.fin [0, 0, 3, 0, 8, 31] _ (by kernel_rfl) (by simp (maxSteps := 1000000) only [go_sem, listQ, q2] <;> exact rfl) (by kernel_rfl) (by first | (simp (disch := omega) only [go_sem, w64, wU, listQ, q2] <;> exact rfl) | exact rfl) ?_
    refine AW.cond (by simp (maxSteps := 1000000) only [go_sem, listQ, q2] <;> exact rfl) (fun hc2 => ?_) (fun hc2 => ?_)
    · simp only [decide_eq_true_eq, decide_eq_false_iff_not, Bool.not_eq_true', Bool.not_eq_false', hbt, hm0] at hc2
      refine AW.regR rfl (by simp (maxSteps := 1000000) only [go_sem, listQ, q2] <;> exact rfl) (by first | (simp (disch := omega) only [go_sem, w64, wU, listQ, q2] <;> exact rfl) | exact rfl) ?_
      refine retK.fin rfl (by simp (maxSteps := 1000000) only [go_sem, listQ, q2] <;> exact rfl) (by simp (maxSteps := 1000000) only [go_sem, listQ, q2] <;> exact rfl) ?_
      rw [mag_bad (i := 0) (by decide) (by omega) (fun j hj => by (have : False := by omega); exact this.elim) hc2]
      exact Sub.tup ⟨sub_pg0, Sub.refl _, trivial⟩
    · simp only [decide_eq_true_eq, decide_eq_false_iff_not, Bool.not_eq_true', Bool.not_eq_false', hbt, hm0] at hc2
      refine AW.skip ?_
      show AW _ _ _ _ _
      refine AW.regR1 rfl (by simp (maxSteps := 1000000) only [go_sem, listQ, q2] <;> exact rfl) (by first | (simp (disch := omega) only [go_sem, w64, wU, listQ, q2] <;> exact rfl) | exact rfl) ?_
      show ARounds _ _ _ _ _ _
      refine ARounds.mk ?_
      refine AW.seq ?_
      refine AW.regR rfl (by simp (maxSteps := 1000000) only [go_sem, listQ, q2] <;> exact rfl) (by first | (simp (disch := omega) only [go_sem, w64, wU, listQ, q2] <;> exact rfl) | exact rfl) ?_
      refine AW.condT (by simp (maxSteps := 1000000) only [go_sem, listQ, q2] <;> exact rfl) ?_
      refine AW.skip ?_
      show AW _ _ _ _ _
      refine AW.seq ?_
      refine AW.block ?_
      refine AW.seq ?_
      refine AW.regR rfl (by simp (maxSteps := 1000000) only [go_sem, listQ, q2] <;> exact rfl) (by first | (simp (disch := omega) only [go_sem, w64, wU, listQ, q2] <;> exact rfl) | exact rfl) ?_
      refine AW.cond (by simp (maxSteps := 1000000) only [go_sem, listQ, q2] <;> exact rfl) (fun hc3 => ?_) (fun hc3 => ?_)
      · try simp only [decide_eq_true_eq, decide_eq_false_iff_not, Bool.or_eq_true, Bool.or_eq_false_iff, Bool.and_eq_true, Bool.and_eq_false_imp, Bool.not_eq_true', Bool.not_eq_false'] at hc3
        refine AW.regR rfl (by simp (maxSteps := 1000000) only [go_sem, listQ, q2] <;> exact rfl) (by first | (simp (disch := omega) only [go_sem, w64, wU, listQ, q2] <;> exact rfl) | exact rfl) ?_
        refine retK.fin rfl (by simp (maxSteps := 1000000) only [go_sem, listQ, q2] <;> exact rfl) (by simp (maxSteps := 1000000) only [go_sem, listQ, q2] <;> exact rfl) ?_
        rw [mag_short (i := 1) (by decide) (by omega) (fun j hj => by (have : j = 0 := by omega); subst this; assumption)]
        exact Sub.tup ⟨sub_pg0, Sub.refl _, trivial⟩
      · try simp only [decide_eq_true_eq, decide_eq_false_iff_not, Bool.or_eq_true, Bool.or_eq_false_iff, Bool.and_eq_true, Bool.and_eq_false_imp, Bool.not_eq_true', Bool.not_eq_false'] at hc3
        have hi1 : 1 < l.length := by omega
        have hj1 : ((1 : Int) < (l.length : Int)) = True := eq_true (by omega)
        have q3 := And.intro q2 (And.intro hi1 (hj1))
        refine AW.skip ?_
        show AW _ _ _ _ _
        refine AW.regDS follows (by kernel_rfl) ?_
        refine ARE.run1 (by simp (maxSteps := 1000000) only [go_sem, listQ, q3] <;> exact rfl) ?_
        refine ARE.fin [0, 0, 3, 0, 8, 31] _ (by kernel_rfl) (by simp (maxSteps := 1000000) only [go_sem, listQ, q3] <;> exact rfl) (by kernel_rfl) (by first | (simp (disch := omega) only [go_sem, w64, wU, listQ, q3] <;> exact rfl) | exact rfl) ?_
        refine AW.cond (by simp (maxSteps := 1000000) only [go_sem, listQ, q3] <;> exact rfl) (fun hc4 => ?_) (fun hc4 => ?_)
        · simp only [decide_eq_true_eq, decide_eq_false_iff_not, Bool.not_eq_true', Bool.not_eq_false', hbt, hm1] at hc4
          refine AW.regR rfl (by simp (maxSteps := 1000000) only [go_sem, listQ, q3] <;> exact rfl) (by first | (simp (disch := omega) only [go_sem, w64, wU, listQ, q3] <;> exact rfl) | exact rfl) ?_
          refine retK.fin rfl (by simp (maxSteps := 1000000) only [go_sem, listQ, q3] <;> exact rfl) (by simp (maxSteps := 1000000) only [go_sem, listQ, q3] <;> exact rfl) ?_
          rw [mag_bad (i := 1) (by decide) (by omega) (fun j hj => by (have : j = 0 := by omega); subst this; assumption) hc4]
          exact Sub.tup ⟨sub_pg0, Sub.refl _, trivial⟩
        · simp only [decide_eq_true_eq, decide_eq_false_iff_not, Bool.not_eq_true', Bool.not_eq_false', hbt, hm1] at hc4
          refine AW.skip ?_
          show AW _ _ _ _ _
          refine AW.regR1 rfl (by simp (maxSteps := 1000000) only [go_sem, listQ, q3] <;> exact rfl) (by first | (simp (disch := omega) only [go_sem, w64, wU, listQ, q3] <;> exact rfl) | exact rfl) ?_
          show ARounds _ _ _ _ _ _
          refine ARounds.mk ?_
          refine AW.seq ?_
          refine AW.regR rfl (by simp (maxSteps := 1000000) only [go_sem, listQ, q3] <;> exact rfl) (by first | (simp (disch := omega) only [go_sem, w64, wU, listQ, q3] <;> exact rfl) | exact rfl) ?_
          refine AW.condT (by simp (maxSteps := 1000000) only [go_sem, listQ, q3] <;> exact rfl) ?_
          refine AW.skip ?_
          show AW _ _ _ _ _
          refine AW.seq ?_
          refine AW.block ?_
          refine AW.seq ?_
          refine AW.regR rfl (by simp (maxSteps := 1000000) only [go_sem, listQ, q3] <;> exact rfl) (by first | (simp (disch := omega) only [go_sem, w64, wU, listQ, q3] <;> exact rfl) | exact rfl) ?_
          refine AW.cond (by simp (maxSteps := 1000000) only [go_sem, listQ, q3] <;> exact rfl) (fun hc5 => ?_) (fun hc5 => ?_)
          · try simp only [decide_eq_true_eq, decide_eq_false_iff_not, Bool.or_eq_true, Bool.or_eq_false_iff, Bool.and_eq_true, Bool.and_eq_false_imp, Bool.not_eq_true', Bool.not_eq_false'] at hc5
            refine AW.regR rfl (by simp (maxSteps := 1000000) only [go_sem, listQ, q3] <;> exact rfl) (by first | (simp (disch := omega) only [go_sem, w64, wU, listQ, q3] <;> exact rfl) | exact rfl) ?_
            refine retK.fin rfl (by simp (maxSteps := 1000000) only [go_sem, listQ, q3] <;> exact rfl) (by simp (maxSteps := 1000000) only [go_sem, listQ, q3] <;> exact rfl) ?_
            rw [mag_short (i := 2) (by decide) (by omega) (fun j hj => by (have : j = 0 ∨ j = 1 := by omega); rcases this with rfl | rfl <;> assumption)]
            exact Sub.tup ⟨sub_pg0, Sub.refl _, trivial⟩
          · try simp only [decide_eq_true_eq, decide_eq_false_iff_not, Bool.or_eq_true, Bool.or_eq_false_iff, Bool.and_eq_true, Bool.and_eq_false_imp, Bool.not_eq_true', Bool.not_eq_false'] at hc5
            have hi2 : 2 < l.length := by omega
            have hj2 : ((2 : Int) < (l.length : Int)) = True := eq_true (by omega)
            have q4 := And.intro q3 (And.intro hi2 (hj2))
            refine AW.skip ?_
            show AW _ _ _ _ _
            refine AW.regDS follows (by kernel_rfl) ?_
            refine ARE.run1 (by simp (maxSteps := 1000000) only [go_sem, listQ, q4] <;> exact rfl) ?_
            refine ARE.fin [0, 0, 3, 0, 8, 31] _ (by kernel_rfl) (by simp (maxSteps := 1000000) only [go_sem, listQ, q4] <;> exact rfl) (by kernel_rfl) (by first | (simp (disch := omega) only [go_sem, w64, wU, listQ, q4] <;> exact rfl) | exact rfl) ?_
            refine AW.cond (by simp (maxSteps := 1000000) only [go_sem, listQ, q4] <;> exact rfl) (fun hc6 => ?_) (fun hc6 => ?_)
            · simp only [decide_eq_true_eq, decide_eq_false_iff_not, Bool.not_eq_true', Bool.not_eq_false', hbt, hm2] at hc6
              refine AW.regR rfl (by simp (maxSteps := 1000000) only [go_sem, listQ, q4] <;> exact rfl) (by first | (simp (disch := omega) only [go_sem, w64, wU, listQ, q4] <;> exact rfl) | exact rfl) ?_
              refine retK.fin rfl (by simp (maxSteps := 1000000) only [go_sem, listQ, q4] <;> exact rfl) (by simp (maxSteps := 1000000) only [go_sem, listQ, q4] <;> exact rfl) ?_
              rw [mag_bad (i := 2) (by decide) (by omega) (fun j hj => by (have : j = 0 ∨ j = 1 := by omega); rcases this with rfl | rfl <;> assumption) hc6]
              exact Sub.tup ⟨sub_pg0, Sub.refl _, trivial⟩
            · simp only [decide_eq_true_eq, decide_eq_false_iff_not, Bool.not_eq_true', Bool.not_eq_false', hbt, hm2] at hc6
              refine AW.skip ?_
              show AW _ _ _ _ _
              refine AW.regR1 rfl (by simp (maxSteps := 1000000) only [go_sem, listQ, q4] <;> exact rfl) (by first | (simp (disch := omega) only [go_sem, w64, wU, listQ, q4] <;> exact rfl) | exact rfl) ?_
              show ARounds _ _ _ _ _ _
              refine ARounds.mk ?_
              refine AW.seq ?_
              refine AW.regR rfl (by simp (maxSteps := 1000000) only [go_sem, listQ, q4] <;> exact rfl) (by first | (simp (disch := omega) only [go_sem, w64, wU, listQ, q4] <;> exact rfl) | exact rfl) ?_
              refine AW.condT (by simp (maxSteps := 1000000) only [go_sem, listQ, q4] <;> exact rfl) ?_
              refine AW.skip ?_
              show AW _ _ _ _ _
              refine AW.seq ?_
              refine AW.block ?_
              refine AW.seq ?_
              refine AW.regR rfl (by simp (maxSteps := 1000000) only [go_sem, listQ, q4] <;> exact rfl) (by first | (simp (disch := omega) only [go_sem, w64, wU, listQ, q4] <;> exact rfl) | exact rfl) ?_
              refine AW.cond (by simp (maxSteps := 1000000) only [go_sem, listQ, q4] <;> exact rfl) (fun hc7 => ?_) (fun hc7 => ?_)
              · try simp only [decide_eq_true_eq, decide_eq_false_iff_not, Bool.or_eq_true, Bool.or_eq_false_iff, Bool.and_eq_true, Bool.and_eq_false_imp, Bool.not_eq_true', Bool.not_eq_false'] at hc7
                refine AW.regR rfl (by simp (maxSteps := 1000000) only [go_sem, listQ, q4] <;> exact rfl) (by first | (simp (disch := omega) only [go_sem, w64, wU, listQ, q4] <;> exact rfl) | exact rfl) ?_
                refine retK.fin rfl (by simp (maxSteps := 1000000) only [go_sem, listQ, q4] <;> exact rfl) (by simp (maxSteps := 1000000) only [go_sem, listQ, q4] <;> exact rfl) ?_
                rw [mag_short (i := 3) (by decide) (by omega) (fun j hj => by (have : j = 0 ∨ j = 1 ∨ j = 2 := by omega); rcases this with rfl | rfl | rfl <;> assumption)]
                exact Sub.tup ⟨sub_pg0, Sub.refl _, trivial⟩
              · try simp only [decide_eq_true_eq, decide_eq_false_iff_not, Bool.or_eq_true, Bool.or_eq_false_iff, Bool.and_eq_true, Bool.and_eq_false_imp, Bool.not_eq_true', Bool.not_eq_false'] at hc7
                have hi3 : 3 < l.length := by omega
                have hj3 : ((3 : Int) < (l.length : Int)) = True := eq_true (by omega)
                have q5 := And.intro q4 (And.intro hi3 (hj3))
                refine AW.skip ?_
                show AW _ _ _ _ _
                refine AW.regDS follows (by kernel_rfl) ?_
                refine ARE.run1 (by simp (maxSteps := 1000000) only [go_sem, listQ, q5] <;> exact rfl) ?_
                refine ARE.fin [0, 0, 3, 0, 8, 31] _ (by kernel_rfl) (by simp (maxSteps := 1000000) only [go_sem, listQ, q5] <;> exact rfl) (by kernel_rfl) (by first | (simp (disch := omega) only [go_sem, w64, wU, listQ, q5] <;> exact rfl) | exact rfl) ?_
                refine AW.cond (by simp (maxSteps := 1000000) only [go_sem, listQ, q5] <;> exact rfl) (fun hc8 => ?_) (fun hc8 => ?_)
                · simp only [decide_eq_true_eq, decide_eq_false_iff_not, Bool.not_eq_true', Bool.not_eq_false', hbt, hm3] at hc8
                  refine AW.regR rfl (by simp (maxSteps := 1000000) only [go_sem, listQ, q5] <;> exact rfl) (by first | (simp (disch := omega) only [go_sem, w64, wU, listQ, q5] <;> exact rfl) | exact rfl) ?_
                  refine retK.fin rfl (by simp (maxSteps := 1000000) only [go_sem, listQ, q5] <;> exact rfl) (by simp (maxSteps := 1000000) only [go_sem, listQ, q5] <;> exact rfl) ?_
                  rw [mag_bad (i := 3) (by decide) (by omega) (fun j hj => by (have : j = 0 ∨ j = 1 ∨ j = 2 := by omega); rcases this with rfl | rfl | rfl <;> assumption) hc8]
                  exact Sub.tup ⟨sub_pg0, Sub.refl _, trivial⟩
                · simp only [decide_eq_true_eq, decide_eq_false_iff_not, Bool.not_eq_true', Bool.not_eq_false', hbt, hm3] at hc8
                  refine AW.skip ?_
                  show AW _ _ _ _ _
                  refine AW.regR1 rfl (by simp (maxSteps := 1000000) only [go_sem, listQ, q5] <;> exact rfl) (by first | (simp (disch := omega) only [go_sem, w64, wU, listQ, q5] <;> exact rfl) | exact rfl) ?_
                  show ARounds _ _ _ _ _ _
                  refine ARounds.mk ?_
                  refine AW.seq ?_
                  refine AW.regR rfl (by simp (maxSteps := 1000000) only [go_sem, listQ, q5] <;> exact rfl) (by first | (simp (disch := omega) only [go_sem, w64, wU, listQ, q5] <;> exact rfl) | exact rfl) ?_
                  refine AW.condF (by simp (maxSteps := 1000000) only [go_sem, listQ, q5] <;> exact rfl) ?_
                  refine AW.exit ?_
                  show AW _ _ _ _ _
                  refine AW.seq ?_
                  have hR := mag_drop (by omega) hc2 hc4 hc6 hc8
                  refine AW.regR rfl (by simp (maxSteps := 1000000) only [go_sem, listQ, q5] <;> exact rfl) (by first | (simp (disch := omega) only [go_sem, w64, wU, listQ, q5] <;> exact rfl) | exact rfl) ?_
                  refine AW.cond (by simp (maxSteps := 1000000) only [go_sem, listQ, q5] <;> exact rfl) (fun hc9 => ?_) (fun hc9 => ?_)
                  · try simp only [decide_eq_true_eq, decide_eq_false_iff_not, Bool.or_eq_true, Bool.or_eq_false_iff, Bool.and_eq_true, Bool.and_eq_false_imp, Bool.not_eq_true', Bool.not_eq_false'] at hc9
                    refine AW.regR rfl (by simp (maxSteps := 1000000) only [go_sem, listQ, q5] <;> exact rfl) (by first | (simp (disch := omega) only [go_sem, w64, wU, listQ, q5] <;> exact rfl) | exact rfl) ?_
                    refine retK.fin rfl (by simp (maxSteps := 1000000) only [go_sem, listQ, q5] <;> exact rfl) (by simp (maxSteps := 1000000) only [go_sem, listQ, q5] <;> exact rfl) ?_
                    rw [hR, top_none (by simp; omega)]
                    exact Sub.tup ⟨sub_pg0, Sub.refl _, trivial⟩
                  · try simp only [decide_eq_true_eq, decide_eq_false_iff_not, Bool.or_eq_true, Bool.or_eq_false_iff, Bool.and_eq_true, Bool.and_eq_false_imp, Bool.not_eq_true', Bool.not_eq_false'] at hc9
                    refine AW.skip ?_
                    show AW _ _ _ _ _
                    have i4 : ((4 : Int) < (l.length : Int)) = True := eq_true (by omega)
                    have i5 : ((5 : Int) < (l.length : Int)) = True := eq_true (by omega)
                    have i6 : ((6 : Int) < (l.length : Int)) = True := eq_true (by omega)
                    have hg4 := get_ok ok 4
                    have hg5 := get_ok ok 5
                    have hg6 := get_ok ok 6
                    have hw4 : IntKind.i64.wrap (l.getD 4 0) = (l.getD 4 0) := w64 (by omega) (by omega)
                    have hw5 : IntKind.i64.wrap (l.getD 5 0) = (l.getD 5 0) := w64 (by omega) (by omega)
                    have hw6 : IntKind.i64.wrap (l.getD 6 0) = (l.getD 6 0) := w64 (by omega) (by omega)
                    have hw7 : IntKind.i64.wrap ((l.length : Int) - 7) = (l.length : Int) - 7 := w64 (by omega) (by omega)
                    have hw8 : IntKind.i64.wrap (8 * (l.getD 6 0)) = 8 * (l.getD 6 0) := w64 (by omega) (by omega)
                    have q6 := And.intro q5 (And.intro i4 (And.intro i5 (And.intro i6 (And.intro hg4 (And.intro hg5 (And.intro hg6 (And.intro hw4 (And.intro hw5 (And.intro hw6 (And.intro hw7 (hw8)))))))))))
                    refine AW.regR rfl (by simp (maxSteps := 1000000) only [go_sem, listQ, q6] <;> exact rfl) (by first | (simp (disch := omega) only [go_sem, w64, wU, listQ, q6] <;> exact rfl) | exact rfl) ?_
                    refine AW.regR rfl (by simp (maxSteps := 1000000) only [go_sem, listQ, q6] <;> exact rfl) (by first | (simp (disch := omega) only [go_sem, w64, wU, listQ, q6] <;> exact rfl) | exact rfl) ?_
                    refine AW.regR rfl (by simp (maxSteps := 1000000) only [go_sem, listQ, q6] <;> exact rfl) (by first | (simp (disch := omega) only [go_sem, w64, wU, listQ, q6] <;> exact rfl) | exact rfl) ?_
                    refine AW.regR rfl (by simp (maxSteps := 1000000) only [go_sem, listQ, q6] <;> exact rfl) (by first | (simp (disch := omega) only [go_sem, w64, wU, listQ, q6] <;> exact rfl) | exact rfl) ?_
                    refine AW.seq ?_
                    have hR2 := hR.trans (top_some (by omega))
                    refine AW.regR rfl (by simp (maxSteps := 1000000) only [go_sem, listQ, q6] <;> exact rfl) (by first | (simp (disch := omega) only [go_sem, w64, wU, listQ, q6] <;> exact rfl) | exact rfl) ?_
                    refine AW.cond (by simp (maxSteps := 1000000) only [go_sem, listQ, q6] <;> exact rfl) (fun hc10 => ?_) (fun hc10 => ?_)
                    · try simp only [decide_eq_true_eq, decide_eq_false_iff_not, Bool.or_eq_true, Bool.or_eq_false_iff, Bool.and_eq_true, Bool.and_eq_false_imp, Bool.not_eq_true', Bool.not_eq_false'] at hc10
                      refine AW.regR rfl (by simp (maxSteps := 1000000) only [go_sem, listQ, q6] <;> exact rfl) (by first | (simp (disch := omega) only [go_sem, w64, wU, listQ, q6] <;> exact rfl) | exact rfl) ?_
                      refine retK.fin rfl (by simp (maxSteps := 1000000) only [go_sem, listQ, q6] <;> exact rfl) (by simp (maxSteps := 1000000) only [go_sem, listQ, q6] <;> exact rfl) ?_
                      rw [hR2, disk_short (by rw [List.length_drop]; omega)]
                      exact Sub.tup ⟨sub_pg0, Sub.refl _, trivial⟩
                    · try simp only [decide_eq_true_eq, decide_eq_false_iff_not, Bool.or_eq_true, Bool.or_eq_false_iff, Bool.and_eq_true, Bool.and_eq_false_imp, Bool.not_eq_true', Bool.not_eq_false'] at hc10
                      refine AW.skip ?_
                      show AW _ _ _ _ _
                      refine AW.seq ?_
                      refine AW.regR rfl (by simp (maxSteps := 1000000) only [go_sem, listQ, q6] <;> exact rfl) (by first | (simp (disch := omega) only [go_sem, w64, wU, listQ, q6] <;> exact rfl) | exact rfl) ?_
                      refine AW.block ?_
                      refine AW.loopV (α := (List Int) × (Int) × (Int)) (fun ((D, i, at1) : (List Int) × (Int) × (Int)) => [(7, .pv (.int .i64 at1)), (8, .pv (.int .i64 i))]) (fun ((D, i, at1) : (List Int) × (Int) × (Int)) => [.box [.pv (.int .i64 0), .pv (.int .i64 0), .pv (.lst true 0 []), .pv (.lst true 0 []), .pv (.lst true 0 []), .pv (.lst true 0 [])], .box [.pv (.int .i64 (l.getD 4 0)), .pv (.int .i64 (l.getD 5 0)), .vs 2 0 D.length, .pv (.lst true 0 []), .pv (.lst true 0 []), .pv (.lst true 0 [])], .vec 1 (D.map wdR)]) (fun ((D, i, at1) : (List Int) × (Int) × (Int)) => (0 ≤ i) ∧ (i ≤ (l.getD 6 0)) ∧ ((D.length : Int) = i) ∧ (at1 = 7 + 8 * i) ∧ ((∀ x ∈ D, W64 x)) ∧ (readL l = pDisk (fun D l' => pC0 (l.getD 4 0) (l.getD 5 0) D l') ((l.getD 6 0) - i).toNat D (l.drop at1.toNat))) (fun ((D, i, at1) : (List Int) × (Int) × (Int)) => ((l.getD 6 0) - i).toNat) ([], 0, 7) ?_ ?_ ?_
                      · exact ⟨by omega, by omega, rfl, rfl, (fun x hx => by cases hx), by rw [hR2, show ((l.getD 6 0) - 0).toNat = (l.getD 6 0).toNat by omega]; rfl⟩
                      · refine Wk.trans (Wk.vecB 1 1 2 0 (by rfl) (by rfl) (by rfl)) (Wk.to [] [0, 1, 2] hz (by decide) ?_ ?_)
                        · simp (maxSteps := 1000000) (disch := omega) only [go_sem, w64, wU, List.map_append, List.map_cons, List.map_nil, List.cons_append, List.nil_append, List.length_append, List.length_cons, List.length_nil, Nat.le_refl]
                        · simp (maxSteps := 1000000) (disch := omega) only [go_sem, w64, wU, List.map_append, List.map_cons, List.map_nil, List.cons_append, List.nil_append, List.length_append, List.length_cons, List.length_nil, Nat.le_refl]
                      · rintro ⟨D, i, at1⟩ hF _ ht _ hh
                        simp only [updT, go_sem] at ht hh
                        subst ht; subst hh
                        obtain ⟨h1, h2, h3, h4, h5, h6⟩ := hF
                        refine AW.seq ?_
                        refine AW.regR rfl (by simp (maxSteps := 1000000) only [go_sem, listQ, q6] <;> exact rfl) (by first | (simp (disch := omega) only [go_sem, w64, wU, listQ, q6] <;> exact rfl) | exact rfl) ?_
                        refine AW.cond (by simp (maxSteps := 1000000) only [go_sem, listQ, q6] <;> exact rfl) (fun hc11 => ?_) (fun hc11 => ?_)
                        · try simp only [decide_eq_true_eq, decide_eq_false_iff_not, Bool.or_eq_true, Bool.or_eq_false_iff, Bool.and_eq_true, Bool.and_eq_false_imp, Bool.not_eq_true', Bool.not_eq_false'] at hc11
                          have g1 : 0 ≤ i := h1
                          have hwi : IntKind.i64.wrap (i + 1) = i + 1 := w64 (by omega) (by omega)
                          have hwa : IntKind.i64.wrap (at1 + 8) = at1 + 8 := w64 (by omega) (by omega)
                          have b1 : (0 ≤ at1) = True := eq_true (by omega)
                          have b2 : (at1 ≤ at1 + 8) = True := eq_true (by omega)
                          have b3 : (at1 + 8 ≤ (l.length : Int)) = True := eq_true (by omega)
                          have b4 : (at1 + 8).toNat - at1.toNat = 8 := by omega
                          have u1 : ((D.length + 1) * 8 ≤ 140737488355328) = True := eq_true (by omega)
                          have u2 : (D.length + 1 ≤ 140737488355328) = True := eq_true (by omega)
                          have u3 : (D.length ≤ 140737488355327) = True := eq_true (by omega)
                          have q7 := And.intro q6 (And.intro g1 (And.intro hwi (And.intro hwa (And.intro b1 (And.intro b2 (And.intro b3 (And.intro b4 (And.intro u1 (And.intro u2 (u3))))))))))
                          refine AW.skip ?_
                          show AW _ _ _ _ _
                          refine AW.seq ?_
                          refine AW.block ?_
                          refine AW.regDS follows (by kernel_rfl) ?_
                          refine ARE.run1 (by simp (maxSteps := 1000000) only [go_sem, listQ, q7] <;> exact rfl) ?_
                          refine ARE.pcall (fun hp => c31 (l.drop at1.toNat) (by simp; omega) (ok.drop _)) rfl (by simp (maxSteps := 1000000) only [go_sem, listQ, q7] <;> exact rfl) (by simp only [go_sem]) (by simp (maxSteps := 1000000) only [go_sem, listQ, q7] <;> exact rfl) ?_
                          refine ARE.run1 (by simp (maxSteps := 1000000) only [go_sem, listQ, q7] <;> exact rfl) ?_
                          refine ARE.fin [0, 1, 0, 0, 0, 16, 60, 124, 252, 511, 1023, 2047] _ (by kernel_rfl) (by simp (maxSteps := 1000000) only [go_sem, listQ, q7] <;> exact rfl) (by kernel_rfl) (by first | (simp (disch := omega) only [go_sem, w64, wU, listQ, q7] <;> exact rfl) | exact rfl) ?_
                          refine AW.regR1 rfl (by simp (maxSteps := 1000000) only [go_sem, listQ, q7] <;> exact rfl) (by first | (simp (disch := omega) only [go_sem, w64, wU, listQ, q7] <;> exact rfl) | exact rfl) ?_
                          show AW _ _ _ _ _
                          refine AW.regR1 rfl (by simp (maxSteps := 1000000) only [go_sem, listQ, q7] <;> exact rfl) (by first | (simp (disch := omega) only [go_sem, w64, wU, listQ, q7] <;> exact rfl) | exact rfl) ?_
                          refine ⟨(D ++ [numW (l.drop at1.toNat)], i + 1, at1 + 8), ?_, ?_, ?_⟩
                          · (try dsimp only); omega
                          · exact ⟨by (try dsimp only); omega, by (try dsimp only); omega, by simp; omega, by (try dsimp only); omega, (fun x hx => (List.mem_append.1 hx).elim (h5 x) (fun q => by rw [List.mem_singleton.1 q]; exact numW_ok (ok.drop _))), by rw [h6, disk_next (by omega) (by simp; omega), List.drop_drop, show (((l.getD 6 0) - i).toNat - 1) = ((l.getD 6 0) - (i + 1)).toNat by omega, show at1.toNat + 8 = (at1 + 8).toNat by omega]⟩
                          · refine Wk.to [] [0, 1, 3] hz (by decide) ?_ ?_
                            · simp (maxSteps := 1000000) (disch := omega) only [go_sem, w64, wU, listQ, q7]
                            · simp (maxSteps := 1000000) (disch := omega) only [go_sem, w64, wU, listQ, q7]
                        · try simp only [decide_eq_true_eq, decide_eq_false_iff_not, Bool.or_eq_true, Bool.or_eq_false_iff, Bool.and_eq_true, Bool.and_eq_false_imp, Bool.not_eq_true', Bool.not_eq_false'] at hc11
                          have hD : D.length ≤ 255 := by omega
                          have h8 : readL l = pC0 (l.getD 4 0) (l.getD 5 0) D (l.drop at1.toNat) := by rw [h6, disk_0 (by omega)]
                          have at1b : 0 ≤ at1 ∧ at1 ≤ 3000 := by omega
                          have q8 := And.intro q6 (And.intro hD (And.intro h8 (at1b)))
                          refine AW.exit ?_
                          show AW _ _ _ _ _
                          refine AW.seq ?_
                          refine AW.regR rfl (by simp (maxSteps := 1000000) only [go_sem, listQ, q8] <;> exact rfl) (by first | (simp (disch := omega) only [go_sem, w64, wU, listQ, q8] <;> exact rfl) | exact rfl) ?_
                          refine AW.block ?_
                          refine AW.rounds 4 ?_
                          refine ARounds.mk ?_
                          refine AW.seq ?_
                          refine AW.regR rfl (by simp (maxSteps := 1000000) only [go_sem, listQ, q8] <;> exact rfl) (by first | (simp (disch := omega) only [go_sem, w64, wU, listQ, q8] <;> exact rfl) | exact rfl) ?_
                          refine AW.condT (by simp (maxSteps := 1000000) only [go_sem, listQ, q8] <;> exact rfl) ?_
                          refine AW.skip ?_
                          show AW _ _ _ _ _
                          refine AW.seq ?_
                          refine AW.block ?_
                          refine AW.seq ?_
                          refine AW.regR rfl (by simp (maxSteps := 1000000) only [go_sem, listQ, q8] <;> exact rfl) (by first | (simp (disch := omega) only [go_sem, w64, wU, listQ, q8] <;> exact rfl) | exact rfl) ?_
                          refine AW.cond (by simp (maxSteps := 1000000) only [go_sem, listQ, q8] <;> exact rfl) (fun hc12 => ?_) (fun hc12 => ?_)
                          · try simp only [decide_eq_true_eq, decide_eq_false_iff_not, Bool.or_eq_true, Bool.or_eq_false_iff, Bool.and_eq_true, Bool.and_eq_false_imp, Bool.not_eq_true', Bool.not_eq_false'] at hc12
                            refine AW.regR rfl (by simp (maxSteps := 1000000) only [go_sem, listQ, q8] <;> exact rfl) (by first | (simp (disch := omega) only [go_sem, w64, wU, listQ, q8] <;> exact rfl) | exact rfl) ?_
                            refine retK.fin rfl (by simp (maxSteps := 1000000) only [go_sem, listQ, q8] <;> exact rfl) (by simp (maxSteps := 1000000) only [go_sem, listQ, q8] <;> exact rfl) ?_
                            rw [h8, show pC0 _ _ _ _ = _ from code_none (by omega)]
                            exact Sub.tup ⟨sub_pg0, Sub.refl _, trivial⟩
                          · try simp only [decide_eq_true_eq, decide_eq_false_iff_not, Bool.or_eq_true, Bool.or_eq_false_iff, Bool.and_eq_true, Bool.and_eq_false_imp, Bool.not_eq_true', Bool.not_eq_false'] at hc12
                            have n10 : (0 ≤ at1) = True := eq_true (by omega)
                            have n20 : (at1 < (l.length : Int)) = True := eq_true (by omega)
                            have n30 := get_ok ok at1.toNat
                            have n40 : IntKind.i64.wrap (l.getD at1.toNat 0) = (l.getD at1.toNat 0) := w64 (by omega) (by omega)
                            have n50 : IntKind.i64.wrap (at1 + 1) = at1 + 1 := w64 (by omega) (by omega)
                            have n60 : IntKind.i64.wrap ((l.length : Int) - (at1 + 1)) = (l.length : Int) - (at1 + 1) := w64 (by omega) (by omega)
                            have n70 : IntKind.i64.wrap (12 * (l.getD at1.toNat 0)) = 12 * (l.getD at1.toNat 0) := w64 (by omega) (by omega)
                            have n80 : readL l = pIns (fun K0 l' => pC1 (l.getD 4 0) (l.getD 5 0) D K0 l') (l.getD at1.toNat 0).toNat [] (l.drop (at1.toNat + 1)) := h8.trans (code_some (by omega))
                            have q9 := And.intro q8 (And.intro n10 (And.intro n20 (And.intro n30 (And.intro n40 (And.intro n50 (And.intro n60 (And.intro n70 (n80))))))))
                            refine AW.skip ?_
                            show AW _ _ _ _ _
                            refine AW.regR rfl (by simp (maxSteps := 1000000) only [go_sem, listQ, q9] <;> exact rfl) (by first | (simp (disch := omega) only [go_sem, w64, wU, listQ, q9] <;> exact rfl) | exact rfl) ?_
                            refine AW.regR rfl (by simp (maxSteps := 1000000) only [go_sem, listQ, q9] <;> exact rfl) (by first | (simp (disch := omega) only [go_sem, w64, wU, listQ, q9] <;> exact rfl) | exact rfl) ?_
                            refine AW.seq ?_
                            refine AW.regR rfl (by simp (maxSteps := 1000000) only [go_sem, listQ, q9] <;> exact rfl) (by first | (simp (disch := omega) only [go_sem, w64, wU, listQ, q9] <;> exact rfl) | exact rfl) ?_
                            refine AW.cond (by simp (maxSteps := 1000000) only [go_sem, listQ, q9] <;> exact rfl) (fun hc13 => ?_) (fun hc13 => ?_)
                            · try simp only [decide_eq_true_eq, decide_eq_false_iff_not, Bool.or_eq_true, Bool.or_eq_false_iff, Bool.and_eq_true, Bool.and_eq_false_imp, Bool.not_eq_true', Bool.not_eq_false'] at hc13
                              refine AW.regR rfl (by simp (maxSteps := 1000000) only [go_sem, listQ, q9] <;> exact rfl) (by first | (simp (disch := omega) only [go_sem, w64, wU, listQ, q9] <;> exact rfl) | exact rfl) ?_
                              refine retK.fin rfl (by simp (maxSteps := 1000000) only [go_sem, listQ, q9] <;> exact rfl) (by simp (maxSteps := 1000000) only [go_sem, listQ, q9] <;> exact rfl) ?_
                              rw [n80, ins_short (by rw [List.length_drop]; omega)]
                              exact Sub.tup ⟨sub_pg0, Sub.refl _, trivial⟩
                            · try simp only [decide_eq_true_eq, decide_eq_false_iff_not, Bool.or_eq_true, Bool.or_eq_false_iff, Bool.and_eq_true, Bool.and_eq_false_imp, Bool.not_eq_true', Bool.not_eq_false'] at hc13
                              refine AW.skip ?_
                              show AW _ _ _ _ _
                              refine AW.regR rfl (by simp (maxSteps := 1000000) only [go_sem, listQ, q9] <;> exact rfl) (by first | (simp (disch := omega) only [go_sem, w64, wU, listQ, q9] <;> exact rfl) | exact rfl) ?_
                              refine AW.seq ?_
                              refine AW.regR rfl (by simp (maxSteps := 1000000) only [go_sem, listQ, q9] <;> exact rfl) (by first | (simp (disch := omega) only [go_sem, w64, wU, listQ, q9] <;> exact rfl) | exact rfl) ?_
                              refine AW.block ?_
                              refine AW.loopV (α := (List Ins) × (Int) × (Int)) (fun ((K0, abx, j0) : (List Ins) × (Int) × (Int)) => [(7, .pv (.int .i64 abx)), (11, .vs 3 0 K0.length), (12, .pv (.int .i64 j0)), (93, .any), (94, .any), (95, .any), (96, .any), (97, .any), (98, .any), (99, .any), (100, .any), (101, .any), (102, .any), (103, .any), (104, .any), (105, .any), (106, .any), (107, .any), (108, .any), (109, .any), (110, .any), (111, .any), (112, .any), (113, .any), (114, .any), (115, .any), (116, .any), (117, .any), (118, .any), (119, .any), (120, .any), (121, .any), (122, .any), (123, .any), (124, .any), (125, .any), (126, .any), (127, .any), (128, .any), (129, .any)]) (fun ((K0, abx, j0) : (List Ins) × (Int) × (Int)) => [.box [.pv (.int .i64 0), .pv (.int .i64 0), .pv (.lst true 0 []), .pv (.lst true 0 []), .pv (.lst true 0 []), .pv (.lst true 0 [])], .box [.pv (.int .i64 (l.getD 4 0)), .pv (.int .i64 (l.getD 5 0)), .vs 2 0 D.length, .pv (.lst true 0 []), .pv (.lst true 0 []), .pv (.lst true 0 [])], .vec 1 (D.map wdR), .vec 5 (K0.map inR)]) (fun ((K0, abx, j0) : (List Ins) × (Int) × (Int)) => (0 ≤ j0) ∧ (j0 ≤ (l.getD at1.toNat 0)) ∧ ((K0.length : Int) = j0) ∧ (abx = at1 + 1 + 12 * j0) ∧ (OkC K0) ∧ (readL l = pIns (fun K0 l' => pC1 (l.getD 4 0) (l.getD 5 0) D K0 l') ((l.getD at1.toNat 0) - j0).toNat K0 (l.drop abx.toNat))) (fun ((K0, abx, j0) : (List Ins) × (Int) × (Int)) => ((l.getD at1.toNat 0) - j0).toNat) ([], at1 + 1, 0) ?_ ?_ ?_
                              · exact ⟨by omega, by omega, rfl, by omega, (fun x hx => by cases hx), by rw [n80, show ((l.getD at1.toNat 0) - 0).toNat = (l.getD at1.toNat 0).toNat by omega, show (at1 + 1).toNat = at1.toNat + 1 by omega]⟩
                              · refine Wk.trans (Wk.vec 5 11 0 rfl) (Wk.to [] [0, 1, 2, 3] hz (by decide) ?_ ?_)
                                · simp (maxSteps := 1000000) (disch := omega) only [go_sem, w64, wU, List.map_append, List.map_cons, List.map_nil, List.cons_append, List.nil_append, List.length_append, List.length_cons, List.length_nil, Nat.le_refl]
                                · simp (maxSteps := 1000000) (disch := omega) only [go_sem, w64, wU, List.map_append, List.map_cons, List.map_nil, List.cons_append, List.nil_append, List.length_append, List.length_cons, List.length_nil, Nat.le_refl]
                              · rintro ⟨K0, abx, j0⟩ hF _ ht _ hh
                                simp only [updT, go_sem] at ht hh
                                subst ht; subst hh
                                obtain ⟨a10, a20, a30, a40, a50, a60⟩ := hF
                                refine AW.seq ?_
                                refine AW.regR rfl (by simp (maxSteps := 1000000) only [go_sem, listQ, q9] <;> exact rfl) (by first | (simp (disch := omega) only [go_sem, w64, wU, listQ, q9] <;> exact rfl) | exact rfl) ?_
                                refine AW.cond (by simp (maxSteps := 1000000) only [go_sem, listQ, q9] <;> exact rfl) (fun hc14 => ?_) (fun hc14 => ?_)
                                · try simp only [decide_eq_true_eq, decide_eq_false_iff_not, Bool.or_eq_true, Bool.or_eq_false_iff, Bool.and_eq_true, Bool.and_eq_false_imp, Bool.not_eq_true', Bool.not_eq_false'] at hc14
                                  have p10 : 0 ≤ j0 := a10
                                  have p20 : IntKind.i64.wrap (j0 + 1) = j0 + 1 := w64 (by omega) (by omega)
                                  have p30 : ((K0.length + 1) * 40 ≤ 140737488355328) = True := eq_true (by omega)
                                  have p40 : (K0.length + 1 ≤ 140737488355328) = True := eq_true (by omega)
                                  have p50 : (K0.length ≤ 140737488355327) = True := eq_true (by omega)
                                  have p60 : (0 ≤ abx) = True := eq_true (by omega)
                                  have p70 : (abx < (l.length : Int)) = True := eq_true (by omega)
                                  have q10 : (0 ≤ abx + 1) = True := eq_true (by omega)
                                  have r10 : (abx + 1 < (l.length : Int)) = True := eq_true (by omega)
                                  have s10 : IntKind.i64.wrap (abx + 1) = abx + 1 := w64 (by omega) (by omega)
                                  have t10 : (abx + 1).toNat = abx.toNat + 1 := by omega
                                  have q20 : (0 ≤ abx + 2) = True := eq_true (by omega)
                                  have r20 : (abx + 2 < (l.length : Int)) = True := eq_true (by omega)
                                  have s20 : IntKind.i64.wrap (abx + 2) = abx + 2 := w64 (by omega) (by omega)
                                  have t20 : (abx + 2).toNat = abx.toNat + 2 := by omega
                                  have q30 : (0 ≤ abx + 3) = True := eq_true (by omega)
                                  have r30 : (abx + 3 < (l.length : Int)) = True := eq_true (by omega)
                                  have s30 : IntKind.i64.wrap (abx + 3) = abx + 3 := w64 (by omega) (by omega)
                                  have t30 : (abx + 3).toNat = abx.toNat + 3 := by omega
                                  have x00 : IntKind.i64.wrap (l.getD (abx.toNat) 0) = l.getD (abx.toNat) 0 := by have := get_ok ok (abx.toNat); exact w64 (by omega) (by omega)
                                  have x10 : IntKind.i64.wrap (l.getD (abx.toNat + 1) 0) = l.getD (abx.toNat + 1) 0 := by have := get_ok ok (abx.toNat + 1); exact w64 (by omega) (by omega)
                                  have x20 : IntKind.i64.wrap (l.getD (abx.toNat + 2) 0) = l.getD (abx.toNat + 2) 0 := by have := get_ok ok (abx.toNat + 2); exact w64 (by omega) (by omega)
                                  have x30 : IntKind.i64.wrap (l.getD (abx.toNat + 3) 0) = l.getD (abx.toNat + 3) 0 := by have := get_ok ok (abx.toNat + 3); exact w64 (by omega) (by omega)
                                  have y10 : (0 ≤ abx + 4) = True := eq_true (by omega)
                                  have y20 : (abx + 4 ≤ abx + 12) = True := eq_true (by omega)
                                  have y30 : (abx + 12 ≤ (l.length : Int)) = True := eq_true (by omega)
                                  have y40 : IntKind.i64.wrap (abx + 4) = abx + 4 := w64 (by omega) (by omega)
                                  have y50 : IntKind.i64.wrap (abx + 12) = abx + 12 := w64 (by omega) (by omega)
                                  have y60 : (abx + 12).toNat - (abx + 4).toNat = 8 := by omega
                                  have y70 : (abx + 4).toNat = abx.toNat + 4 := by omega
                                  have y90 : (abx + 12).toNat - (abx.toNat + 4) = 8 := by omega
                                  have y80 := insOf_at (l := l) (a := abx.toNat)
                                  have q10 := And.intro q9 (And.intro p10 (And.intro p20 (And.intro p30 (And.intro p40 (And.intro p50 (And.intro p60 (And.intro p70 (And.intro q10 (And.intro r10 (And.intro s10 (And.intro t10 (And.intro q20 (And.intro r20 (And.intro s20 (And.intro t20 (And.intro q30 (And.intro r30 (And.intro s30 (And.intro t30 (And.intro x00 (And.intro x10 (And.intro x20 (And.intro x30 (And.intro y10 (And.intro y20 (And.intro y30 (And.intro y40 (And.intro y50 (And.intro y60 (And.intro y70 (And.intro y90 (y80))))))))))))))))))))))))))))))))
                                  refine AW.skip ?_
                                  show AW _ _ _ _ _
                                  refine AW.seq ?_
                                  refine AW.block ?_
                                  refine AW.regDS follows (by kernel_rfl) ?_
                                  refine ARE.run1 (by simp (maxSteps := 1000000) only [go_sem, listQ, q10] <;> exact rfl) ?_
                                  refine ARE.pcall (fun hp => c31 (l.drop (abx + 4).toNat) (by simp; omega) (ok.drop _)) rfl (by simp (maxSteps := 1000000) only [go_sem, listQ, q10] <;> exact rfl) (by simp only [go_sem]) (by simp (maxSteps := 1000000) only [go_sem, listQ, q10] <;> exact rfl) ?_
                                  refine ARE.run1 (by simp (maxSteps := 1000000) only [go_sem, listQ, q10] <;> exact rfl) ?_
                                  refine ARE.fin [0, 0, 0, 6, 14, 0, 0, 64, 224, 480, 0, 0, 2048, 7168, 15360, 0, 0, 65536, 229376, 491520, 0, 0, 2097152, 0, 8388608, 32505856, 66060288, 134217726, 268435454, 536870911, 1073741823] _ (by kernel_rfl) (by simp (maxSteps := 1000000) only [go_sem, listQ, q10] <;> exact rfl) (by kernel_rfl) (by first | (simp (disch := omega) only [go_sem, w64, wU, listQ, q10] <;> exact rfl) | exact rfl) ?_
                                  refine AW.regR1 rfl (by simp (maxSteps := 1000000) only [go_sem, listQ, q10] <;> exact rfl) (by first | (simp (disch := omega) only [go_sem, w64, wU, listQ, q10] <;> exact rfl) | exact rfl) ?_
                                  show AW _ _ _ _ _
                                  refine AW.regR1 rfl (by simp (maxSteps := 1000000) only [go_sem, listQ, q10] <;> exact rfl) (by first | (simp (disch := omega) only [go_sem, w64, wU, listQ, q10] <;> exact rfl) | exact rfl) ?_
                                  refine ⟨(K0 ++ [insOf (l.drop abx.toNat)], abx + 12, j0 + 1), ?_, ?_, ?_⟩
                                  · (try dsimp only); omega
                                  · exact ⟨by (try dsimp only); omega, by (try dsimp only); omega, by simp; omega, by (try dsimp only); omega, (fun x hx => (List.mem_append.1 hx).elim (a50 x) (fun q => by rw [List.mem_singleton.1 q]; exact numW_ok ((ok.drop _).drop 4))), by rw [a60, ins_next (by omega) (by simp; omega), List.drop_drop, show (((l.getD at1.toNat 0) - j0).toNat - 1) = ((l.getD at1.toNat 0) - (j0 + 1)).toNat by omega, show abx.toNat + 12 = (abx + 12).toNat by omega]⟩
                                  · refine Wk.to [] [0, 1, 2, 4] hz (by decide) ?_ ?_
                                    · simp (maxSteps := 1000000) (disch := omega) only [go_sem, w64, wU, listQ, q10]
                                    · simp (maxSteps := 1000000) (disch := omega) only [go_sem, w64, wU, listQ, q10]
                                · try simp only [decide_eq_true_eq, decide_eq_false_iff_not, Bool.or_eq_true, Bool.or_eq_false_iff, Bool.and_eq_true, Bool.and_eq_false_imp, Bool.not_eq_true', Bool.not_eq_false'] at hc14
                                  have k10 : K0.length ≤ 255 := by omega
                                  have k20 : readL l = pC1 (l.getD 4 0) (l.getD 5 0) D K0 (l.drop abx.toNat) := by rw [a60, ins_0 (by omega)]
                                  have k30 : 0 ≤ abx ∧ abx ≤ 7000 := by omega
                                  have q11 := And.intro q9 (And.intro k10 (And.intro k20 (k30)))
                                  refine AW.exit ?_
                                  show AW _ _ _ _ _
                                  refine AW.regR1 rfl (by simp (maxSteps := 1000000) only [go_sem, listQ, q11] <;> exact rfl) (by first | (simp (disch := omega) only [go_sem, w64, wU, listQ, q11] <;> exact rfl) | exact rfl) ?_
                                  show AW _ _ _ _ _
                                  refine AW.regR1 rfl (by simp (maxSteps := 1000000) only [go_sem, listQ, q11] <;> exact rfl) (by first | (simp (disch := omega) only [go_sem, w64, wU, listQ, q11] <;> exact rfl) | exact rfl) ?_
                                  show ARounds _ _ _ _ _ _
                                  refine ARounds.mk ?_
                                  refine AW.seq ?_
                                  refine AW.regR rfl (by simp (maxSteps := 1000000) only [go_sem, listQ, q11] <;> exact rfl) (by first | (simp (disch := omega) only [go_sem, w64, wU, listQ, q11] <;> exact rfl) | exact rfl) ?_
                                  refine AW.condT (by simp (maxSteps := 1000000) only [go_sem, listQ, q11] <;> exact rfl) ?_
                                  refine AW.skip ?_
                                  show AW _ _ _ _ _
                                  refine AW.seq ?_
                                  refine AW.block ?_
                                  refine AW.seq ?_
                                  refine AW.regR rfl (by simp (maxSteps := 1000000) only [go_sem, listQ, q11] <;> exact rfl) (by first | (simp (disch := omega) only [go_sem, w64, wU, listQ, q11] <;> exact rfl) | exact rfl) ?_
                                  refine AW.cond (by simp (maxSteps := 1000000) only [go_sem, listQ, q11] <;> exact rfl) (fun hc15 => ?_) (fun hc15 => ?_)
                                  · try simp only [decide_eq_true_eq, decide_eq_false_iff_not, Bool.or_eq_true, Bool.or_eq_false_iff, Bool.and_eq_true, Bool.and_eq_false_imp, Bool.not_eq_true', Bool.not_eq_false'] at hc15
                                    refine AW.regR rfl (by simp (maxSteps := 1000000) only [go_sem, listQ, q11] <;> exact rfl) (by first | (simp (disch := omega) only [go_sem, w64, wU, listQ, q11] <;> exact rfl) | exact rfl) ?_
                                    refine retK.fin rfl (by simp (maxSteps := 1000000) only [go_sem, listQ, q11] <;> exact rfl) (by simp (maxSteps := 1000000) only [go_sem, listQ, q11] <;> exact rfl) ?_
                                    rw [k20, show pC1 _ _ _ _ _ = _ from code_none (by omega)]
                                    exact Sub.tup ⟨sub_pg0, Sub.refl _, trivial⟩
                                  · try simp only [decide_eq_true_eq, decide_eq_false_iff_not, Bool.or_eq_true, Bool.or_eq_false_iff, Bool.and_eq_true, Bool.and_eq_false_imp, Bool.not_eq_true', Bool.not_eq_false'] at hc15
                                    have n11 : (0 ≤ abx) = True := eq_true (by omega)
                                    have n21 : (abx < (l.length : Int)) = True := eq_true (by omega)
                                    have n31 := get_ok ok abx.toNat
                                    have n41 : IntKind.i64.wrap (l.getD abx.toNat 0) = (l.getD abx.toNat 0) := w64 (by omega) (by omega)
                                    have n51 : IntKind.i64.wrap (abx + 1) = abx + 1 := w64 (by omega) (by omega)
                                    have n61 : IntKind.i64.wrap ((l.length : Int) - (abx + 1)) = (l.length : Int) - (abx + 1) := w64 (by omega) (by omega)
                                    have n71 : IntKind.i64.wrap (12 * (l.getD abx.toNat 0)) = 12 * (l.getD abx.toNat 0) := w64 (by omega) (by omega)
                                    have n81 : readL l = pIns (fun K1 l' => pC2 (l.getD 4 0) (l.getD 5 0) D K0 K1 l') (l.getD abx.toNat 0).toNat [] (l.drop (abx.toNat + 1)) := k20.trans (code_some (by omega))
                                    have q12 := And.intro q11 (And.intro n11 (And.intro n21 (And.intro n31 (And.intro n41 (And.intro n51 (And.intro n61 (And.intro n71 (n81))))))))
                                    refine AW.skip ?_
                                    show AW _ _ _ _ _
                                    refine AW.regR rfl (by simp (maxSteps := 1000000) only [go_sem, listQ, q12] <;> exact rfl) (by first | (simp (disch := omega) only [go_sem, w64, wU, listQ, q12] <;> exact rfl) | exact rfl) ?_
                                    refine AW.regR rfl (by simp (maxSteps := 1000000) only [go_sem, listQ, q12] <;> exact rfl) (by first | (simp (disch := omega) only [go_sem, w64, wU, listQ, q12] <;> exact rfl) | exact rfl) ?_
                                    refine AW.seq ?_
                                    refine AW.regR rfl (by simp (maxSteps := 1000000) only [go_sem, listQ, q12] <;> exact rfl) (by first | (simp (disch := omega) only [go_sem, w64, wU, listQ, q12] <;> exact rfl) | exact rfl) ?_
                                    refine AW.cond (by simp (maxSteps := 1000000) only [go_sem, listQ, q12] <;> exact rfl) (fun hc16 => ?_) (fun hc16 => ?_)
                                    · try simp only [decide_eq_true_eq, decide_eq_false_iff_not, Bool.or_eq_true, Bool.or_eq_false_iff, Bool.and_eq_true, Bool.and_eq_false_imp, Bool.not_eq_true', Bool.not_eq_false'] at hc16
                                      refine AW.regR rfl (by simp (maxSteps := 1000000) only [go_sem, listQ, q12] <;> exact rfl) (by first | (simp (disch := omega) only [go_sem, w64, wU, listQ, q12] <;> exact rfl) | exact rfl) ?_
                                      refine retK.fin rfl (by simp (maxSteps := 1000000) only [go_sem, listQ, q12] <;> exact rfl) (by simp (maxSteps := 1000000) only [go_sem, listQ, q12] <;> exact rfl) ?_
                                      rw [n81, ins_short (by rw [List.length_drop]; omega)]
                                      exact Sub.tup ⟨sub_pg0, Sub.refl _, trivial⟩
                                    · try simp only [decide_eq_true_eq, decide_eq_false_iff_not, Bool.or_eq_true, Bool.or_eq_false_iff, Bool.and_eq_true, Bool.and_eq_false_imp, Bool.not_eq_true', Bool.not_eq_false'] at hc16
                                      refine AW.skip ?_
                                      show AW _ _ _ _ _
                                      refine AW.regR rfl (by simp (maxSteps := 1000000) only [go_sem, listQ, q12] <;> exact rfl) (by first | (simp (disch := omega) only [go_sem, w64, wU, listQ, q12] <;> exact rfl) | exact rfl) ?_
                                      refine AW.seq ?_
                                      refine AW.regR rfl (by simp (maxSteps := 1000000) only [go_sem, listQ, q12] <;> exact rfl) (by first | (simp (disch := omega) only [go_sem, w64, wU, listQ, q12] <;> exact rfl) | exact rfl) ?_
                                      refine AW.block ?_
                                      refine AW.loopV (α := (List Ins) × (Int) × (Int)) (fun ((K1, aby, j1) : (List Ins) × (Int) × (Int)) => [(7, .pv (.int .i64 aby)), (11, .vs 4 0 K1.length), (12, .pv (.int .i64 j1)), (93, .any), (94, .any), (95, .any), (96, .any), (97, .any), (98, .any), (99, .any), (100, .any), (101, .any), (102, .any), (103, .any), (104, .any), (105, .any), (106, .any), (107, .any), (108, .any), (109, .any), (110, .any), (111, .any), (112, .any), (113, .any), (114, .any), (115, .any), (116, .any), (117, .any), (118, .any), (119, .any), (120, .any), (121, .any), (122, .any), (123, .any), (124, .any), (125, .any), (126, .any), (127, .any), (128, .any), (129, .any)]) (fun ((K1, aby, j1) : (List Ins) × (Int) × (Int)) => [.box [.pv (.int .i64 0), .pv (.int .i64 0), .pv (.lst true 0 []), .pv (.lst true 0 []), .pv (.lst true 0 []), .pv (.lst true 0 [])], .box [.pv (.int .i64 (l.getD 4 0)), .pv (.int .i64 (l.getD 5 0)), .vs 2 0 D.length, .vs 3 0 K0.length, .pv (.lst true 0 []), .pv (.lst true 0 [])], .vec 1 (D.map wdR), .vec 5 (K0.map inR), .vec 5 (K1.map inR)]) (fun ((K1, aby, j1) : (List Ins) × (Int) × (Int)) => (0 ≤ j1) ∧ (j1 ≤ (l.getD abx.toNat 0)) ∧ ((K1.length : Int) = j1) ∧ (aby = abx + 1 + 12 * j1) ∧ (OkC K1) ∧ (readL l = pIns (fun K1 l' => pC2 (l.getD 4 0) (l.getD 5 0) D K0 K1 l') ((l.getD abx.toNat 0) - j1).toNat K1 (l.drop aby.toNat))) (fun ((K1, aby, j1) : (List Ins) × (Int) × (Int)) => ((l.getD abx.toNat 0) - j1).toNat) ([], abx + 1, 0) ?_ ?_ ?_
                                      · exact ⟨by omega, by omega, rfl, by omega, (fun x hx => by cases hx), by rw [n81, show ((l.getD abx.toNat 0) - 0).toNat = (l.getD abx.toNat 0).toNat by omega, show (abx + 1).toNat = abx.toNat + 1 by omega]⟩
                                      · refine Wk.trans (Wk.vec 5 11 0 rfl) (Wk.to [] [0, 1, 2, 3, 4] hz (by decide) ?_ ?_)
                                        · simp (maxSteps := 1000000) (disch := omega) only [go_sem, w64, wU, List.map_append, List.map_cons, List.map_nil, List.cons_append, List.nil_append, List.length_append, List.length_cons, List.length_nil, Nat.le_refl]
                                        · simp (maxSteps := 1000000) (disch := omega) only [go_sem, w64, wU, List.map_append, List.map_cons, List.map_nil, List.cons_append, List.nil_append, List.length_append, List.length_cons, List.length_nil, Nat.le_refl]
                                      · rintro ⟨K1, aby, j1⟩ hF _ ht _ hh
                                        simp only [updT, go_sem] at ht hh
                                        subst ht; subst hh
                                        obtain ⟨a11, a21, a31, a41, a51, a61⟩ := hF
                                        refine AW.seq ?_
                                        refine AW.regR rfl (by simp (maxSteps := 1000000) only [go_sem, listQ, q12] <;> exact rfl) (by first | (simp (disch := omega) only [go_sem, w64, wU, listQ, q12] <;> exact rfl) | exact rfl) ?_
                                        refine AW.cond (by simp (maxSteps := 1000000) only [go_sem, listQ, q12] <;> exact rfl) (fun hc17 => ?_) (fun hc17 => ?_)
                                        · try simp only [decide_eq_true_eq, decide_eq_false_iff_not, Bool.or_eq_true, Bool.or_eq_false_iff, Bool.and_eq_true, Bool.and_eq_false_imp, Bool.not_eq_true', Bool.not_eq_false'] at hc17
                                          have p11 : 0 ≤ j1 := a11
                                          have p21 : IntKind.i64.wrap (j1 + 1) = j1 + 1 := w64 (by omega) (by omega)
                                          have p31 : ((K1.length + 1) * 40 ≤ 140737488355328) = True := eq_true (by omega)
                                          have p41 : (K1.length + 1 ≤ 140737488355328) = True := eq_true (by omega)
                                          have p51 : (K1.length ≤ 140737488355327) = True := eq_true (by omega)
                                          have p61 : (0 ≤ aby) = True := eq_true (by omega)
                                          have p71 : (aby < (l.length : Int)) = True := eq_true (by omega)
                                          have q11 : (0 ≤ aby + 1) = True := eq_true (by omega)
                                          have r11 : (aby + 1 < (l.length : Int)) = True := eq_true (by omega)
                                          have s11 : IntKind.i64.wrap (aby + 1) = aby + 1 := w64 (by omega) (by omega)
                                          have t11 : (aby + 1).toNat = aby.toNat + 1 := by omega
                                          have q21 : (0 ≤ aby + 2) = True := eq_true (by omega)
                                          have r21 : (aby + 2 < (l.length : Int)) = True := eq_true (by omega)
                                          have s21 : IntKind.i64.wrap (aby + 2) = aby + 2 := w64 (by omega) (by omega)
                                          have t21 : (aby + 2).toNat = aby.toNat + 2 := by omega
                                          have q31 : (0 ≤ aby + 3) = True := eq_true (by omega)
                                          have r31 : (aby + 3 < (l.length : Int)) = True := eq_true (by omega)
                                          have s31 : IntKind.i64.wrap (aby + 3) = aby + 3 := w64 (by omega) (by omega)
                                          have t31 : (aby + 3).toNat = aby.toNat + 3 := by omega
                                          have x01 : IntKind.i64.wrap (l.getD (aby.toNat) 0) = l.getD (aby.toNat) 0 := by have := get_ok ok (aby.toNat); exact w64 (by omega) (by omega)
                                          have x11 : IntKind.i64.wrap (l.getD (aby.toNat + 1) 0) = l.getD (aby.toNat + 1) 0 := by have := get_ok ok (aby.toNat + 1); exact w64 (by omega) (by omega)
                                          have x21 : IntKind.i64.wrap (l.getD (aby.toNat + 2) 0) = l.getD (aby.toNat + 2) 0 := by have := get_ok ok (aby.toNat + 2); exact w64 (by omega) (by omega)
                                          have x31 : IntKind.i64.wrap (l.getD (aby.toNat + 3) 0) = l.getD (aby.toNat + 3) 0 := by have := get_ok ok (aby.toNat + 3); exact w64 (by omega) (by omega)
                                          have y11 : (0 ≤ aby + 4) = True := eq_true (by omega)
                                          have y21 : (aby + 4 ≤ aby + 12) = True := eq_true (by omega)
                                          have y31 : (aby + 12 ≤ (l.length : Int)) = True := eq_true (by omega)
                                          have y41 : IntKind.i64.wrap (aby + 4) = aby + 4 := w64 (by omega) (by omega)
                                          have y51 : IntKind.i64.wrap (aby + 12) = aby + 12 := w64 (by omega) (by omega)
                                          have y61 : (aby + 12).toNat - (aby + 4).toNat = 8 := by omega
                                          have y71 : (aby + 4).toNat = aby.toNat + 4 := by omega
                                          have y91 : (aby + 12).toNat - (aby.toNat + 4) = 8 := by omega
                                          have y81 := insOf_at (l := l) (a := aby.toNat)
                                          have q13 := And.intro q12 (And.intro p11 (And.intro p21 (And.intro p31 (And.intro p41 (And.intro p51 (And.intro p61 (And.intro p71 (And.intro q11 (And.intro r11 (And.intro s11 (And.intro t11 (And.intro q21 (And.intro r21 (And.intro s21 (And.intro t21 (And.intro q31 (And.intro r31 (And.intro s31 (And.intro t31 (And.intro x01 (And.intro x11 (And.intro x21 (And.intro x31 (And.intro y11 (And.intro y21 (And.intro y31 (And.intro y41 (And.intro y51 (And.intro y61 (And.intro y71 (And.intro y91 (y81))))))))))))))))))))))))))))))))
                                          refine AW.skip ?_
                                          show AW _ _ _ _ _
                                          refine AW.seq ?_
                                          refine AW.block ?_
                                          refine AW.regDS follows (by kernel_rfl) ?_
                                          refine ARE.run1 (by simp (maxSteps := 1000000) only [go_sem, listQ, q13] <;> exact rfl) ?_
                                          refine ARE.pcall (fun hp => c31 (l.drop (aby + 4).toNat) (by simp; omega) (ok.drop _)) rfl (by simp (maxSteps := 1000000) only [go_sem, listQ, q13] <;> exact rfl) (by simp only [go_sem]) (by simp (maxSteps := 1000000) only [go_sem, listQ, q13] <;> exact rfl) ?_
                                          refine ARE.run1 (by simp (maxSteps := 1000000) only [go_sem, listQ, q13] <;> exact rfl) ?_
                                          refine ARE.fin [0, 0, 0, 6, 14, 0, 0, 64, 224, 480, 0, 0, 2048, 7168, 15360, 0, 0, 65536, 229376, 491520, 0, 0, 2097152, 0, 8388608, 32505856, 66060288, 134217726, 268435454, 536870911, 1073741823] _ (by kernel_rfl) (by simp (maxSteps := 1000000) only [go_sem, listQ, q13] <;> exact rfl) (by kernel_rfl) (by first | (simp (disch := omega) only [go_sem, w64, wU, listQ, q13] <;> exact rfl) | exact rfl) ?_
                                          refine AW.regR1 rfl (by simp (maxSteps := 1000000) only [go_sem, listQ, q13] <;> exact rfl) (by first | (simp (disch := omega) only [go_sem, w64, wU, listQ, q13] <;> exact rfl) | exact rfl) ?_
                                          show AW _ _ _ _ _
                                          refine AW.regR1 rfl (by simp (maxSteps := 1000000) only [go_sem, listQ, q13] <;> exact rfl) (by first | (simp (disch := omega) only [go_sem, w64, wU, listQ, q13] <;> exact rfl) | exact rfl) ?_
                                          refine ⟨(K1 ++ [insOf (l.drop aby.toNat)], aby + 12, j1 + 1), ?_, ?_, ?_⟩
                                          · (try dsimp only); omega
                                          · exact ⟨by (try dsimp only); omega, by (try dsimp only); omega, by simp; omega, by (try dsimp only); omega, (fun x hx => (List.mem_append.1 hx).elim (a51 x) (fun q => by rw [List.mem_singleton.1 q]; exact numW_ok ((ok.drop _).drop 4))), by rw [a61, ins_next (by omega) (by simp; omega), List.drop_drop, show (((l.getD abx.toNat 0) - j1).toNat - 1) = ((l.getD abx.toNat 0) - (j1 + 1)).toNat by omega, show aby.toNat + 12 = (aby + 12).toNat by omega]⟩
                                          · refine Wk.to [] [0, 1, 2, 3, 5] hz (by decide) ?_ ?_
                                            · simp (maxSteps := 1000000) (disch := omega) only [go_sem, w64, wU, listQ, q13]
                                            · simp (maxSteps := 1000000) (disch := omega) only [go_sem, w64, wU, listQ, q13]
                                        · try simp only [decide_eq_true_eq, decide_eq_false_iff_not, Bool.or_eq_true, Bool.or_eq_false_iff, Bool.and_eq_true, Bool.and_eq_false_imp, Bool.not_eq_true', Bool.not_eq_false'] at hc17
                                          have k11 : K1.length ≤ 255 := by omega
                                          have k21 : readL l = pC2 (l.getD 4 0) (l.getD 5 0) D K0 K1 (l.drop aby.toNat) := by rw [a61, ins_0 (by omega)]
                                          have k31 : 0 ≤ aby ∧ aby ≤ 10000 := by omega
                                          have q14 := And.intro q12 (And.intro k11 (And.intro k21 (k31)))
                                          refine AW.exit ?_
                                          show AW _ _ _ _ _
                                          refine AW.regR1 rfl (by simp (maxSteps := 1000000) only [go_sem, listQ, q14] <;> exact rfl) (by first | (simp (disch := omega) only [go_sem, w64, wU, listQ, q14] <;> exact rfl) | exact rfl) ?_
                                          show AW _ _ _ _ _
                                          refine AW.regR1 rfl (by simp (maxSteps := 1000000) only [go_sem, listQ, q14] <;> exact rfl) (by first | (simp (disch := omega) only [go_sem, w64, wU, listQ, q14] <;> exact rfl) | exact rfl) ?_
                                          show ARounds _ _ _ _ _ _
                                          refine ARounds.mk ?_
                                          refine AW.seq ?_
                                          refine AW.regR rfl (by simp (maxSteps := 1000000) only [go_sem, listQ, q14] <;> exact rfl) (by first | (simp (disch := omega) only [go_sem, w64, wU, listQ, q14] <;> exact rfl) | exact rfl) ?_
                                          refine AW.condT (by simp (maxSteps := 1000000) only [go_sem, listQ, q14] <;> exact rfl) ?_
                                          refine AW.skip ?_
                                          show AW _ _ _ _ _
                                          refine AW.seq ?_
                                          refine AW.block ?_
                                          refine AW.seq ?_
                                          refine AW.regR rfl (by simp (maxSteps := 1000000) only [go_sem, listQ, q14] <;> exact rfl) (by first | (simp (disch := omega) only [go_sem, w64, wU, listQ, q14] <;> exact rfl) | exact rfl) ?_
                                          refine AW.cond (by simp (maxSteps := 1000000) only [go_sem, listQ, q14] <;> exact rfl) (fun hc18 => ?_) (fun hc18 => ?_)
                                          · try simp only [decide_eq_true_eq, decide_eq_false_iff_not, Bool.or_eq_true, Bool.or_eq_false_iff, Bool.and_eq_true, Bool.and_eq_false_imp, Bool.not_eq_true', Bool.not_eq_false'] at hc18
                                            refine AW.regR rfl (by simp (maxSteps := 1000000) only [go_sem, listQ, q14] <;> exact rfl) (by first | (simp (disch := omega) only [go_sem, w64, wU, listQ, q14] <;> exact rfl) | exact rfl) ?_
                                            refine retK.fin rfl (by simp (maxSteps := 1000000) only [go_sem, listQ, q14] <;> exact rfl) (by simp (maxSteps := 1000000) only [go_sem, listQ, q14] <;> exact rfl) ?_
                                            rw [k21, show pC2 _ _ _ _ _ _ = _ from code_none (by omega)]
                                            exact Sub.tup ⟨sub_pg0, Sub.refl _, trivial⟩
                                          · try simp only [decide_eq_true_eq, decide_eq_false_iff_not, Bool.or_eq_true, Bool.or_eq_false_iff, Bool.and_eq_true, Bool.and_eq_false_imp, Bool.not_eq_true', Bool.not_eq_false'] at hc18
                                            have n12 : (0 ≤ aby) = True := eq_true (by omega)
                                            have n22 : (aby < (l.length : Int)) = True := eq_true (by omega)
                                            have n32 := get_ok ok aby.toNat
                                            have n42 : IntKind.i64.wrap (l.getD aby.toNat 0) = (l.getD aby.toNat 0) := w64 (by omega) (by omega)
                                            have n52 : IntKind.i64.wrap (aby + 1) = aby + 1 := w64 (by omega) (by omega)
                                            have n62 : IntKind.i64.wrap ((l.length : Int) - (aby + 1)) = (l.length : Int) - (aby + 1) := w64 (by omega) (by omega)
                                            have n72 : IntKind.i64.wrap (12 * (l.getD aby.toNat 0)) = 12 * (l.getD aby.toNat 0) := w64 (by omega) (by omega)
                                            have n82 : readL l = pIns (fun K2 l' => pEnd ⟨(l.getD 4 0), (l.getD 5 0), D, K0, K1, K2⟩ l') (l.getD aby.toNat 0).toNat [] (l.drop (aby.toNat + 1)) := k21.trans (code_some (by omega))
                                            have q15 := And.intro q14 (And.intro n12 (And.intro n22 (And.intro n32 (And.intro n42 (And.intro n52 (And.intro n62 (And.intro n72 (n82))))))))
                                            refine AW.skip ?_
                                            show AW _ _ _ _ _
                                            refine AW.regR rfl (by simp (maxSteps := 1000000) only [go_sem, listQ, q15] <;> exact rfl) (by first | (simp (disch := omega) only [go_sem, w64, wU, listQ, q15] <;> exact rfl) | exact rfl) ?_
                                            refine AW.regR rfl (by simp (maxSteps := 1000000) only [go_sem, listQ, q15] <;> exact rfl) (by first | (simp (disch := omega) only [go_sem, w64, wU, listQ, q15] <;> exact rfl) | exact rfl) ?_
                                            refine AW.seq ?_
                                            refine AW.regR rfl (by simp (maxSteps := 1000000) only [go_sem, listQ, q15] <;> exact rfl) (by first | (simp (disch := omega) only [go_sem, w64, wU, listQ, q15] <;> exact rfl) | exact rfl) ?_
                                            refine AW.cond (by simp (maxSteps := 1000000) only [go_sem, listQ, q15] <;> exact rfl) (fun hc19 => ?_) (fun hc19 => ?_)
                                            · try simp only [decide_eq_true_eq, decide_eq_false_iff_not, Bool.or_eq_true, Bool.or_eq_false_iff, Bool.and_eq_true, Bool.and_eq_false_imp, Bool.not_eq_true', Bool.not_eq_false'] at hc19
                                              refine AW.regR rfl (by simp (maxSteps := 1000000) only [go_sem, listQ, q15] <;> exact rfl) (by first | (simp (disch := omega) only [go_sem, w64, wU, listQ, q15] <;> exact rfl) | exact rfl) ?_
                                              refine retK.fin rfl (by simp (maxSteps := 1000000) only [go_sem, listQ, q15] <;> exact rfl) (by simp (maxSteps := 1000000) only [go_sem, listQ, q15] <;> exact rfl) ?_
                                              rw [n82, ins_short (by rw [List.length_drop]; omega)]
                                              exact Sub.tup ⟨sub_pg0, Sub.refl _, trivial⟩
                                            · try simp only [decide_eq_true_eq, decide_eq_false_iff_not, Bool.or_eq_true, Bool.or_eq_false_iff, Bool.and_eq_true, Bool.and_eq_false_imp, Bool.not_eq_true', Bool.not_eq_false'] at hc19
                                              refine AW.skip ?_
                                              show AW _ _ _ _ _
                                              refine AW.regR rfl (by simp (maxSteps := 1000000) only [go_sem, listQ, q15] <;> exact rfl) (by first | (simp (disch := omega) only [go_sem, w64, wU, listQ, q15] <;> exact rfl) | exact rfl) ?_
                                              refine AW.seq ?_
                                              refine AW.regR rfl (by simp (maxSteps := 1000000) only [go_sem, listQ, q15] <;> exact rfl) (by first | (simp (disch := omega) only [go_sem, w64, wU, listQ, q15] <;> exact rfl) | exact rfl) ?_
                                              refine AW.block ?_
                                              refine AW.loopV (α := (List Ins) × (Int) × (Int)) (fun ((K2, abz, j2) : (List Ins) × (Int) × (Int)) => [(7, .pv (.int .i64 abz)), (11, .vs 5 0 K2.length), (12, .pv (.int .i64 j2)), (93, .any), (94, .any), (95, .any), (96, .any), (97, .any), (98, .any), (99, .any), (100, .any), (101, .any), (102, .any), (103, .any), (104, .any), (105, .any), (106, .any), (107, .any), (108, .any), (109, .any), (110, .any), (111, .any), (112, .any), (113, .any), (114, .any), (115, .any), (116, .any), (117, .any), (118, .any), (119, .any), (120, .any), (121, .any), (122, .any), (123, .any), (124, .any), (125, .any), (126, .any), (127, .any), (128, .any), (129, .any)]) (fun ((K2, abz, j2) : (List Ins) × (Int) × (Int)) => [.box [.pv (.int .i64 0), .pv (.int .i64 0), .pv (.lst true 0 []), .pv (.lst true 0 []), .pv (.lst true 0 []), .pv (.lst true 0 [])], .box [.pv (.int .i64 (l.getD 4 0)), .pv (.int .i64 (l.getD 5 0)), .vs 2 0 D.length, .vs 3 0 K0.length, .vs 4 0 K1.length, .pv (.lst true 0 [])], .vec 1 (D.map wdR), .vec 5 (K0.map inR), .vec 5 (K1.map inR), .vec 5 (K2.map inR)]) (fun ((K2, abz, j2) : (List Ins) × (Int) × (Int)) => (0 ≤ j2) ∧ (j2 ≤ (l.getD aby.toNat 0)) ∧ ((K2.length : Int) = j2) ∧ (abz = aby + 1 + 12 * j2) ∧ (OkC K2) ∧ (readL l = pIns (fun K2 l' => pEnd ⟨(l.getD 4 0), (l.getD 5 0), D, K0, K1, K2⟩ l') ((l.getD aby.toNat 0) - j2).toNat K2 (l.drop abz.toNat))) (fun ((K2, abz, j2) : (List Ins) × (Int) × (Int)) => ((l.getD aby.toNat 0) - j2).toNat) ([], aby + 1, 0) ?_ ?_ ?_
                                              · exact ⟨by omega, by omega, rfl, by omega, (fun x hx => by cases hx), by rw [n82, show ((l.getD aby.toNat 0) - 0).toNat = (l.getD aby.toNat 0).toNat by omega, show (aby + 1).toNat = aby.toNat + 1 by omega]⟩
                                              · refine Wk.trans (Wk.vec 5 11 0 rfl) (Wk.to [] [0, 1, 2, 3, 4, 5] hz (by decide) ?_ ?_)
                                                · simp (maxSteps := 1000000) (disch := omega) only [go_sem, w64, wU, List.map_append, List.map_cons, List.map_nil, List.cons_append, List.nil_append, List.length_append, List.length_cons, List.length_nil, Nat.le_refl]
                                                · simp (maxSteps := 1000000) (disch := omega) only [go_sem, w64, wU, List.map_append, List.map_cons, List.map_nil, List.cons_append, List.nil_append, List.length_append, List.length_cons, List.length_nil, Nat.le_refl]
                                              · rintro ⟨K2, abz, j2⟩ hF _ ht _ hh
                                                simp only [updT, go_sem] at ht hh
                                                subst ht; subst hh
                                                obtain ⟨a12, a22, a32, a42, a52, a62⟩ := hF
                                                refine AW.seq ?_
                                                refine AW.regR rfl (by simp (maxSteps := 1000000) only [go_sem, listQ, q15] <;> exact rfl) (by first | (simp (disch := omega) only [go_sem, w64, wU, listQ, q15] <;> exact rfl) | exact rfl) ?_
                                                refine AW.cond (by simp (maxSteps := 1000000) only [go_sem, listQ, q15] <;> exact rfl) (fun hc20 => ?_) (fun hc20 => ?_)
                                                · try simp only [decide_eq_true_eq, decide_eq_false_iff_not, Bool.or_eq_true, Bool.or_eq_false_iff, Bool.and_eq_true, Bool.and_eq_false_imp, Bool.not_eq_true', Bool.not_eq_false'] at hc20
                                                  have p12 : 0 ≤ j2 := a12
                                                  have p22 : IntKind.i64.wrap (j2 + 1) = j2 + 1 := w64 (by omega) (by omega)
                                                  have p32 : ((K2.length + 1) * 40 ≤ 140737488355328) = True := eq_true (by omega)
                                                  have p42 : (K2.length + 1 ≤ 140737488355328) = True := eq_true (by omega)
                                                  have p52 : (K2.length ≤ 140737488355327) = True := eq_true (by omega)
                                                  have p62 : (0 ≤ abz) = True := eq_true (by omega)
                                                  have p72 : (abz < (l.length : Int)) = True := eq_true (by omega)
                                                  have q12 : (0 ≤ abz + 1) = True := eq_true (by omega)
                                                  have r12 : (abz + 1 < (l.length : Int)) = True := eq_true (by omega)
                                                  have s12 : IntKind.i64.wrap (abz + 1) = abz + 1 := w64 (by omega) (by omega)
                                                  have t12 : (abz + 1).toNat = abz.toNat + 1 := by omega
                                                  have q22 : (0 ≤ abz + 2) = True := eq_true (by omega)
                                                  have r22 : (abz + 2 < (l.length : Int)) = True := eq_true (by omega)
                                                  have s22 : IntKind.i64.wrap (abz + 2) = abz + 2 := w64 (by omega) (by omega)
                                                  have t22 : (abz + 2).toNat = abz.toNat + 2 := by omega
                                                  have q32 : (0 ≤ abz + 3) = True := eq_true (by omega)
                                                  have r32 : (abz + 3 < (l.length : Int)) = True := eq_true (by omega)
                                                  have s32 : IntKind.i64.wrap (abz + 3) = abz + 3 := w64 (by omega) (by omega)
                                                  have t32 : (abz + 3).toNat = abz.toNat + 3 := by omega
                                                  have x02 : IntKind.i64.wrap (l.getD (abz.toNat) 0) = l.getD (abz.toNat) 0 := by have := get_ok ok (abz.toNat); exact w64 (by omega) (by omega)
                                                  have x12 : IntKind.i64.wrap (l.getD (abz.toNat + 1) 0) = l.getD (abz.toNat + 1) 0 := by have := get_ok ok (abz.toNat + 1); exact w64 (by omega) (by omega)
                                                  have x22 : IntKind.i64.wrap (l.getD (abz.toNat + 2) 0) = l.getD (abz.toNat + 2) 0 := by have := get_ok ok (abz.toNat + 2); exact w64 (by omega) (by omega)
                                                  have x32 : IntKind.i64.wrap (l.getD (abz.toNat + 3) 0) = l.getD (abz.toNat + 3) 0 := by have := get_ok ok (abz.toNat + 3); exact w64 (by omega) (by omega)
                                                  have y12 : (0 ≤ abz + 4) = True := eq_true (by omega)
                                                  have y22 : (abz + 4 ≤ abz + 12) = True := eq_true (by omega)
                                                  have y32 : (abz + 12 ≤ (l.length : Int)) = True := eq_true (by omega)
                                                  have y42 : IntKind.i64.wrap (abz + 4) = abz + 4 := w64 (by omega) (by omega)
                                                  have y52 : IntKind.i64.wrap (abz + 12) = abz + 12 := w64 (by omega) (by omega)
                                                  have y62 : (abz + 12).toNat - (abz + 4).toNat = 8 := by omega
                                                  have y72 : (abz + 4).toNat = abz.toNat + 4 := by omega
                                                  have y92 : (abz + 12).toNat - (abz.toNat + 4) = 8 := by omega
                                                  have y82 := insOf_at (l := l) (a := abz.toNat)
                                                  have q16 := And.intro q15 (And.intro p12 (And.intro p22 (And.intro p32 (And.intro p42 (And.intro p52 (And.intro p62 (And.intro p72 (And.intro q12 (And.intro r12 (And.intro s12 (And.intro t12 (And.intro q22 (And.intro r22 (And.intro s22 (And.intro t22 (And.intro q32 (And.intro r32 (And.intro s32 (And.intro t32 (And.intro x02 (And.intro x12 (And.intro x22 (And.intro x32 (And.intro y12 (And.intro y22 (And.intro y32 (And.intro y42 (And.intro y52 (And.intro y62 (And.intro y72 (And.intro y92 (y82))))))))))))))))))))))))))))))))
                                                  refine AW.skip ?_
                                                  show AW _ _ _ _ _
                                                  refine AW.seq ?_
                                                  refine AW.block ?_
                                                  refine AW.regDS follows (by kernel_rfl) ?_
                                                  refine ARE.run1 (by simp (maxSteps := 1000000) only [go_sem, listQ, q16] <;> exact rfl) ?_
                                                  refine ARE.pcall (fun hp => c31 (l.drop (abz + 4).toNat) (by simp; omega) (ok.drop _)) rfl (by simp (maxSteps := 1000000) only [go_sem, listQ, q16] <;> exact rfl) (by simp only [go_sem]) (by simp (maxSteps := 1000000) only [go_sem, listQ, q16] <;> exact rfl) ?_
                                                  refine ARE.run1 (by simp (maxSteps := 1000000) only [go_sem, listQ, q16] <;> exact rfl) ?_
                                                  refine ARE.fin [0, 0, 0, 6, 14, 0, 0, 64, 224, 480, 0, 0, 2048, 7168, 15360, 0, 0, 65536, 229376, 491520, 0, 0, 2097152, 0, 8388608, 32505856, 66060288, 134217726, 268435454, 536870911, 1073741823] _ (by kernel_rfl) (by simp (maxSteps := 1000000) only [go_sem, listQ, q16] <;> exact rfl) (by kernel_rfl) (by first | (simp (disch := omega) only [go_sem, w64, wU, listQ, q16] <;> exact rfl) | exact rfl) ?_
                                                  refine AW.regR1 rfl (by simp (maxSteps := 1000000) only [go_sem, listQ, q16] <;> exact rfl) (by first | (simp (disch := omega) only [go_sem, w64, wU, listQ, q16] <;> exact rfl) | exact rfl) ?_
                                                  show AW _ _ _ _ _
                                                  refine AW.regR1 rfl (by simp (maxSteps := 1000000) only [go_sem, listQ, q16] <;> exact rfl) (by first | (simp (disch := omega) only [go_sem, w64, wU, listQ, q16] <;> exact rfl) | exact rfl) ?_
                                                  refine ⟨(K2 ++ [insOf (l.drop abz.toNat)], abz + 12, j2 + 1), ?_, ?_, ?_⟩
                                                  · (try dsimp only); omega
                                                  · exact ⟨by (try dsimp only); omega, by (try dsimp only); omega, by simp; omega, by (try dsimp only); omega, (fun x hx => (List.mem_append.1 hx).elim (a52 x) (fun q => by rw [List.mem_singleton.1 q]; exact numW_ok ((ok.drop _).drop 4))), by rw [a62, ins_next (by omega) (by simp; omega), List.drop_drop, show (((l.getD aby.toNat 0) - j2).toNat - 1) = ((l.getD aby.toNat 0) - (j2 + 1)).toNat by omega, show abz.toNat + 12 = (abz + 12).toNat by omega]⟩
                                                  · refine Wk.to [] [0, 1, 2, 3, 4, 6] hz (by decide) ?_ ?_
                                                    · simp (maxSteps := 1000000) (disch := omega) only [go_sem, w64, wU, listQ, q16]
                                                    · simp (maxSteps := 1000000) (disch := omega) only [go_sem, w64, wU, listQ, q16]
                                                · try simp only [decide_eq_true_eq, decide_eq_false_iff_not, Bool.or_eq_true, Bool.or_eq_false_iff, Bool.and_eq_true, Bool.and_eq_false_imp, Bool.not_eq_true', Bool.not_eq_false'] at hc20
                                                  have k12 : K2.length ≤ 255 := by omega
                                                  have k22 : readL l = pEnd ⟨(l.getD 4 0), (l.getD 5 0), D, K0, K1, K2⟩ (l.drop abz.toNat) := by rw [a62, ins_0 (by omega)]
                                                  have k32 : 0 ≤ abz ∧ abz ≤ 13000 := by omega
                                                  have q17 := And.intro q15 (And.intro k12 (And.intro k22 (k32)))
                                                  refine AW.exit ?_
                                                  show AW _ _ _ _ _
                                                  refine AW.regR1 rfl (by simp (maxSteps := 1000000) only [go_sem, listQ, q17] <;> exact rfl) (by first | (simp (disch := omega) only [go_sem, w64, wU, listQ, q17] <;> exact rfl) | exact rfl) ?_
                                                  show AW _ _ _ _ _
                                                  refine AW.regR1 rfl (by simp (maxSteps := 1000000) only [go_sem, listQ, q17] <;> exact rfl) (by first | (simp (disch := omega) only [go_sem, w64, wU, listQ, q17] <;> exact rfl) | exact rfl) ?_
                                                  show ARounds _ _ _ _ _ _
                                                  refine ARounds.mk ?_
                                                  refine AW.seq ?_
                                                  refine AW.regR rfl (by simp (maxSteps := 1000000) only [go_sem, listQ, q17] <;> exact rfl) (by first | (simp (disch := omega) only [go_sem, w64, wU, listQ, q17] <;> exact rfl) | exact rfl) ?_
                                                  refine AW.condF (by simp (maxSteps := 1000000) only [go_sem, listQ, q17] <;> exact rfl) ?_
                                                  refine AW.exit ?_
                                                  show AW _ _ _ _ _
                                                  refine AW.seq ?_
                                                  refine AW.regR rfl (by simp (maxSteps := 1000000) only [go_sem, listQ, q17] <;> exact rfl) (by first | (simp (disch := omega) only [go_sem, w64, wU, listQ, q17] <;> exact rfl) | exact rfl) ?_
                                                  refine AW.cond (by simp (maxSteps := 1000000) only [go_sem, listQ, q17] <;> exact rfl) (fun hc21 => ?_) (fun hc21 => ?_)
                                                  · try simp only [decide_eq_true_eq, decide_eq_false_iff_not, Bool.or_eq_true, Bool.or_eq_false_iff, Bool.and_eq_true, Bool.and_eq_false_imp, Bool.not_eq_true', Bool.not_eq_false'] at hc21
                                                    refine AW.regR rfl (by simp (maxSteps := 1000000) only [go_sem, listQ, q17] <;> exact rfl) (by first | (simp (disch := omega) only [go_sem, w64, wU, listQ, q17] <;> exact rfl) | exact rfl) ?_
                                                    refine retK.fin rfl (by simp (maxSteps := 1000000) only [go_sem, listQ, q17] <;> exact rfl) (by simp (maxSteps := 1000000) only [go_sem, listQ, q17] <;> exact rfl) ?_
                                                    rw [k22, end_some (by omega)]
                                                    exact Sub.tup ⟨sub_pg0, Sub.refl _, trivial⟩
                                                  · try simp only [decide_eq_true_eq, decide_eq_false_iff_not, Bool.or_eq_true, Bool.or_eq_false_iff, Bool.and_eq_true, Bool.and_eq_false_imp, Bool.not_eq_true', Bool.not_eq_false'] at hc21
                                                    refine AW.skip ?_
                                                    show AW _ _ _ _ _
                                                    refine AW.regR rfl (by simp (maxSteps := 1000000) only [go_sem, listQ, q17] <;> exact rfl) (by first | (simp (disch := omega) only [go_sem, w64, wU, listQ, q17] <;> exact rfl) | exact rfl) ?_
                                                    refine retK.fin rfl (by simp (maxSteps := 1000000) only [go_sem, listQ, q17] <;> exact rfl) (by simp (maxSteps := 1000000) only [go_sem, listQ, q17] <;> exact rfl) (.of ?_)
                                                    rw [k22, end_none (by omega), List.take_of_length_le (l := List.map wdR D) (by simp), List.take_of_length_le (l := List.map inR K0) (by simp), List.take_of_length_le (l := List.map inR K1) (by simp), List.take_of_length_le (l := List.map inR K2) (by simp)]
                                                    rfl
end Go.Ab.Tryd
