/- Programs as bytes: the small functions of both. -/
import Derived.Test.YtalgjggmhhdkkaaDoorMB
import Derived.Test.YtalgjggmhhdkkaaDoorTy
import Derived.Test.YtalgjggmhhdkkaaDoorKE
namespace Go.Ab.Tryd
open Go.Proofs Go.Ab
set_option linter.unusedVariables false
set_option linter.unusedSimpArgs false
set_option linter.unnecessarySimpa false
set_option maxRecDepth 100000
attribute [go_sem] wdR inR Nat.mul_one Nat.zero_add List.length_map
theorem follows : Tryd.prog.follows .mixedOrders = true := by kernel_rfl
theorem c14a (a b c d e f : Int) : PC Tryd.prog 21 [.lst true 1 [[.int .i64 a], [.int .i64 b], [.int .i64 c], [.int .i64 d], [.int .i64 e], [.int .i64 f]]] (.bool (decide (byt a ∧ byt b ∧ byt c ∧ byt d ∧ byt e ∧ byt f))) := by
  refine PC.start 18 Tryd.call21 Tryd.func21 rfl Tryd.ntmps21 Tryd.results21 (by simp only [go_sem]; exact rfl) fun z hz => ?_
  refine AW.regR rfl (by simp (maxSteps := 1000000) only [go_sem] <;> exact rfl) (by first | (simp (disch := omega) only [go_sem, w64, wU] <;> exact rfl) | exact rfl) ?_
  refine AW.seq ?_
  refine AW.regR rfl (by simp (maxSteps := 1000000) only [go_sem] <;> exact rfl) (by first | (simp (disch := omega) only [go_sem, w64, wU] <;> exact rfl) | exact rfl) ?_
  refine AW.block ?_
  refine AW.rounds 7 ?_
  refine ARounds.mk ?_
  refine AW.regR rfl (by simp (maxSteps := 1000000) only [go_sem] <;> exact rfl) (by first | (simp (disch := omega) only [go_sem, w64, wU] <;> exact rfl) | exact rfl) ?_
  refine AW.seq ?_
  refine AW.condT (by simp (maxSteps := 1000000) only [go_sem] <;> exact rfl) ?_
  refine AW.skip ?_
  show AW _ _ _ _ _
  refine AW.seq ?_
  refine AW.block ?_
  refine AW.regR rfl (by simp (maxSteps := 1000000) only [go_sem] <;> exact rfl) (by first | (simp (disch := omega) only [go_sem, w64, wU] <;> exact rfl) | exact rfl) ?_
  refine AW.regR rfl (by simp (maxSteps := 1000000) only [go_sem] <;> exact rfl) (by first | (simp (disch := omega) only [go_sem, w64, wU] <;> exact rfl) | exact rfl) ?_
  refine AW.cond (by simp (maxSteps := 1000000) only [go_sem] <;> exact rfl) (fun hc1 => ?_) (fun hc1 => ?_)
  · try simp only [decide_eq_true_eq, decide_eq_false_iff_not, Bool.or_eq_true, Bool.or_eq_false_iff, Bool.and_eq_true, Bool.and_eq_false_imp, Bool.not_eq_true', Bool.not_eq_false'] at hc1
    refine AW.regR rfl (by simp (maxSteps := 1000000) only [go_sem] <;> exact rfl) (by first | (simp (disch := omega) only [go_sem, w64, wU] <;> exact rfl) | exact rfl) ?_
    refine retK.fin rfl (by simp (maxSteps := 1000000) only [go_sem] <;> exact rfl) (by simp (maxSteps := 1000000) only [go_sem] <;> exact rfl) (.of ?_)
    exact congrArg PV.bool (decide_eq_false (fun q => by unfold byt at q; omega)).symm
  · try simp only [decide_eq_true_eq, decide_eq_false_iff_not, Bool.or_eq_true, Bool.or_eq_false_iff, Bool.and_eq_true, Bool.and_eq_false_imp, Bool.not_eq_true', Bool.not_eq_false'] at hc1
    refine AW.skip ?_
    show AW _ _ _ _ _
    refine AW.regR1 rfl (by simp (maxSteps := 1000000) only [go_sem] <;> exact rfl) (by first | (simp (disch := omega) only [go_sem, w64, wU] <;> exact rfl) | exact rfl) ?_
    show ARounds _ _ _ _ _ _
    refine ARounds.mk ?_
    refine AW.regR rfl (by simp (maxSteps := 1000000) only [go_sem] <;> exact rfl) (by first | (simp (disch := omega) only [go_sem, w64, wU] <;> exact rfl) | exact rfl) ?_
    refine AW.seq ?_
    refine AW.condT (by simp (maxSteps := 1000000) only [go_sem] <;> exact rfl) ?_
    refine AW.skip ?_
    show AW _ _ _ _ _
    refine AW.seq ?_
    refine AW.block ?_
    refine AW.regR rfl (by simp (maxSteps := 1000000) only [go_sem] <;> exact rfl) (by first | (simp (disch := omega) only [go_sem, w64, wU] <;> exact rfl) | exact rfl) ?_
    refine AW.regR rfl (by simp (maxSteps := 1000000) only [go_sem] <;> exact rfl) (by first | (simp (disch := omega) only [go_sem, w64, wU] <;> exact rfl) | exact rfl) ?_
    refine AW.cond (by simp (maxSteps := 1000000) only [go_sem] <;> exact rfl) (fun hc2 => ?_) (fun hc2 => ?_)
    · try simp only [decide_eq_true_eq, decide_eq_false_iff_not, Bool.or_eq_true, Bool.or_eq_false_iff, Bool.and_eq_true, Bool.and_eq_false_imp, Bool.not_eq_true', Bool.not_eq_false'] at hc2
      refine AW.regR rfl (by simp (maxSteps := 1000000) only [go_sem] <;> exact rfl) (by first | (simp (disch := omega) only [go_sem, w64, wU] <;> exact rfl) | exact rfl) ?_
      refine retK.fin rfl (by simp (maxSteps := 1000000) only [go_sem] <;> exact rfl) (by simp (maxSteps := 1000000) only [go_sem] <;> exact rfl) (.of ?_)
      exact congrArg PV.bool (decide_eq_false (fun q => by unfold byt at q; omega)).symm
    · try simp only [decide_eq_true_eq, decide_eq_false_iff_not, Bool.or_eq_true, Bool.or_eq_false_iff, Bool.and_eq_true, Bool.and_eq_false_imp, Bool.not_eq_true', Bool.not_eq_false'] at hc2
      refine AW.skip ?_
      show AW _ _ _ _ _
      refine AW.regR1 rfl (by simp (maxSteps := 1000000) only [go_sem] <;> exact rfl) (by first | (simp (disch := omega) only [go_sem, w64, wU] <;> exact rfl) | exact rfl) ?_
      show ARounds _ _ _ _ _ _
      refine ARounds.mk ?_
      refine AW.regR rfl (by simp (maxSteps := 1000000) only [go_sem] <;> exact rfl) (by first | (simp (disch := omega) only [go_sem, w64, wU] <;> exact rfl) | exact rfl) ?_
      refine AW.seq ?_
      refine AW.condT (by simp (maxSteps := 1000000) only [go_sem] <;> exact rfl) ?_
      refine AW.skip ?_
      show AW _ _ _ _ _
      refine AW.seq ?_
      refine AW.block ?_
      refine AW.regR rfl (by simp (maxSteps := 1000000) only [go_sem] <;> exact rfl) (by first | (simp (disch := omega) only [go_sem, w64, wU] <;> exact rfl) | exact rfl) ?_
      refine AW.regR rfl (by simp (maxSteps := 1000000) only [go_sem] <;> exact rfl) (by first | (simp (disch := omega) only [go_sem, w64, wU] <;> exact rfl) | exact rfl) ?_
      refine AW.cond (by simp (maxSteps := 1000000) only [go_sem] <;> exact rfl) (fun hc3 => ?_) (fun hc3 => ?_)
      · try simp only [decide_eq_true_eq, decide_eq_false_iff_not, Bool.or_eq_true, Bool.or_eq_false_iff, Bool.and_eq_true, Bool.and_eq_false_imp, Bool.not_eq_true', Bool.not_eq_false'] at hc3
        refine AW.regR rfl (by simp (maxSteps := 1000000) only [go_sem] <;> exact rfl) (by first | (simp (disch := omega) only [go_sem, w64, wU] <;> exact rfl) | exact rfl) ?_
        refine retK.fin rfl (by simp (maxSteps := 1000000) only [go_sem] <;> exact rfl) (by simp (maxSteps := 1000000) only [go_sem] <;> exact rfl) (.of ?_)
        exact congrArg PV.bool (decide_eq_false (fun q => by unfold byt at q; omega)).symm
      · try simp only [decide_eq_true_eq, decide_eq_false_iff_not, Bool.or_eq_true, Bool.or_eq_false_iff, Bool.and_eq_true, Bool.and_eq_false_imp, Bool.not_eq_true', Bool.not_eq_false'] at hc3
        refine AW.skip ?_
        show AW _ _ _ _ _
        refine AW.regR1 rfl (by simp (maxSteps := 1000000) only [go_sem] <;> exact rfl) (by first | (simp (disch := omega) only [go_sem, w64, wU] <;> exact rfl) | exact rfl) ?_
        show ARounds _ _ _ _ _ _
        refine ARounds.mk ?_
        refine AW.regR rfl (by simp (maxSteps := 1000000) only [go_sem] <;> exact rfl) (by first | (simp (disch := omega) only [go_sem, w64, wU] <;> exact rfl) | exact rfl) ?_
        refine AW.seq ?_
        refine AW.condT (by simp (maxSteps := 1000000) only [go_sem] <;> exact rfl) ?_
        refine AW.skip ?_
        show AW _ _ _ _ _
        refine AW.seq ?_
        refine AW.block ?_
        refine AW.regR rfl (by simp (maxSteps := 1000000) only [go_sem] <;> exact rfl) (by first | (simp (disch := omega) only [go_sem, w64, wU] <;> exact rfl) | exact rfl) ?_
        refine AW.regR rfl (by simp (maxSteps := 1000000) only [go_sem] <;> exact rfl) (by first | (simp (disch := omega) only [go_sem, w64, wU] <;> exact rfl) | exact rfl) ?_
        refine AW.cond (by simp (maxSteps := 1000000) only [go_sem] <;> exact rfl) (fun hc4 => ?_) (fun hc4 => ?_)
        · try simp only [decide_eq_true_eq, decide_eq_false_iff_not, Bool.or_eq_true, Bool.or_eq_false_iff, Bool.and_eq_true, Bool.and_eq_false_imp, Bool.not_eq_true', Bool.not_eq_false'] at hc4
          refine AW.regR rfl (by simp (maxSteps := 1000000) only [go_sem] <;> exact rfl) (by first | (simp (disch := omega) only [go_sem, w64, wU] <;> exact rfl) | exact rfl) ?_
          refine retK.fin rfl (by simp (maxSteps := 1000000) only [go_sem] <;> exact rfl) (by simp (maxSteps := 1000000) only [go_sem] <;> exact rfl) (.of ?_)
          exact congrArg PV.bool (decide_eq_false (fun q => by unfold byt at q; omega)).symm
        · try simp only [decide_eq_true_eq, decide_eq_false_iff_not, Bool.or_eq_true, Bool.or_eq_false_iff, Bool.and_eq_true, Bool.and_eq_false_imp, Bool.not_eq_true', Bool.not_eq_false'] at hc4
          refine AW.skip ?_
          show AW _ _ _ _ _
          refine AW.regR1 rfl (by simp (maxSteps := 1000000) only [go_sem] <;> exact rfl) (by first | (simp (disch := omega) only [go_sem, w64, wU] <;> exact rfl) | exact rfl) ?_
          show ARounds _ _ _ _ _ _
          refine ARounds.mk ?_
          refine AW.regR rfl (by simp (maxSteps := 1000000) only [go_sem] <;> exact rfl) (by first | (simp (disch := omega) only [go_sem, w64, wU] <;> exact rfl) | exact rfl) ?_
          refine AW.seq ?_
          refine AW.condT (by simp (maxSteps := 1000000) only [go_sem] <;> exact rfl) ?_
          refine AW.skip ?_
          show AW _ _ _ _ _
          refine AW.seq ?_
          refine AW.block ?_
          refine AW.regR rfl (by simp (maxSteps := 1000000) only [go_sem] <;> exact rfl) (by first | (simp (disch := omega) only [go_sem, w64, wU] <;> exact rfl) | exact rfl) ?_
          refine AW.regR rfl (by simp (maxSteps := 1000000) only [go_sem] <;> exact rfl) (by first | (simp (disch := omega) only [go_sem, w64, wU] <;> exact rfl) | exact rfl) ?_
          refine AW.cond (by simp (maxSteps := 1000000) only [go_sem] <;> exact rfl) (fun hc5 => ?_) (fun hc5 => ?_)
          · try simp only [decide_eq_true_eq, decide_eq_false_iff_not, Bool.or_eq_true, Bool.or_eq_false_iff, Bool.and_eq_true, Bool.and_eq_false_imp, Bool.not_eq_true', Bool.not_eq_false'] at hc5
            refine AW.regR rfl (by simp (maxSteps := 1000000) only [go_sem] <;> exact rfl) (by first | (simp (disch := omega) only [go_sem, w64, wU] <;> exact rfl) | exact rfl) ?_
            refine retK.fin rfl (by simp (maxSteps := 1000000) only [go_sem] <;> exact rfl) (by simp (maxSteps := 1000000) only [go_sem] <;> exact rfl) (.of ?_)
            exact congrArg PV.bool (decide_eq_false (fun q => by unfold byt at q; omega)).symm
          · try simp only [decide_eq_true_eq, decide_eq_false_iff_not, Bool.or_eq_true, Bool.or_eq_false_iff, Bool.and_eq_true, Bool.and_eq_false_imp, Bool.not_eq_true', Bool.not_eq_false'] at hc5
            refine AW.skip ?_
            show AW _ _ _ _ _
            refine AW.regR1 rfl (by simp (maxSteps := 1000000) only [go_sem] <;> exact rfl) (by first | (simp (disch := omega) only [go_sem, w64, wU] <;> exact rfl) | exact rfl) ?_
            show ARounds _ _ _ _ _ _
            refine ARounds.mk ?_
            refine AW.regR rfl (by simp (maxSteps := 1000000) only [go_sem] <;> exact rfl) (by first | (simp (disch := omega) only [go_sem, w64, wU] <;> exact rfl) | exact rfl) ?_
            refine AW.seq ?_
            refine AW.condT (by simp (maxSteps := 1000000) only [go_sem] <;> exact rfl) ?_
            refine AW.skip ?_
            show AW _ _ _ _ _
            refine AW.seq ?_
            refine AW.block ?_
            refine AW.regR rfl (by simp (maxSteps := 1000000) only [go_sem] <;> exact rfl) (by first | (simp (disch := omega) only [go_sem, w64, wU] <;> exact rfl) | exact rfl) ?_
            refine AW.regR rfl (by simp (maxSteps := 1000000) only [go_sem] <;> exact rfl) (by first | (simp (disch := omega) only [go_sem, w64, wU] <;> exact rfl) | exact rfl) ?_
            refine AW.cond (by simp (maxSteps := 1000000) only [go_sem] <;> exact rfl) (fun hc6 => ?_) (fun hc6 => ?_)
            · try simp only [decide_eq_true_eq, decide_eq_false_iff_not, Bool.or_eq_true, Bool.or_eq_false_iff, Bool.and_eq_true, Bool.and_eq_false_imp, Bool.not_eq_true', Bool.not_eq_false'] at hc6
              refine AW.regR rfl (by simp (maxSteps := 1000000) only [go_sem] <;> exact rfl) (by first | (simp (disch := omega) only [go_sem, w64, wU] <;> exact rfl) | exact rfl) ?_
              refine retK.fin rfl (by simp (maxSteps := 1000000) only [go_sem] <;> exact rfl) (by simp (maxSteps := 1000000) only [go_sem] <;> exact rfl) (.of ?_)
              exact congrArg PV.bool (decide_eq_false (fun q => by unfold byt at q; omega)).symm
            · try simp only [decide_eq_true_eq, decide_eq_false_iff_not, Bool.or_eq_true, Bool.or_eq_false_iff, Bool.and_eq_true, Bool.and_eq_false_imp, Bool.not_eq_true', Bool.not_eq_false'] at hc6
              refine AW.skip ?_
              show AW _ _ _ _ _
              refine AW.regR1 rfl (by simp (maxSteps := 1000000) only [go_sem] <;> exact rfl) (by first | (simp (disch := omega) only [go_sem, w64, wU] <;> exact rfl) | exact rfl) ?_
              show ARounds _ _ _ _ _ _
              refine ARounds.mk ?_
              refine AW.regR rfl (by simp (maxSteps := 1000000) only [go_sem] <;> exact rfl) (by first | (simp (disch := omega) only [go_sem, w64, wU] <;> exact rfl) | exact rfl) ?_
              refine AW.seq ?_
              refine AW.condF (by simp (maxSteps := 1000000) only [go_sem] <;> exact rfl) ?_
              refine AW.exit ?_
              show AW _ _ _ _ _
              refine AW.regR rfl (by simp (maxSteps := 1000000) only [go_sem] <;> exact rfl) (by first | (simp (disch := omega) only [go_sem, w64, wU] <;> exact rfl) | exact rfl) ?_
              refine retK.fin rfl (by simp (maxSteps := 1000000) only [go_sem] <;> exact rfl) (by simp (maxSteps := 1000000) only [go_sem] <;> exact rfl) (.of ?_)
              exact congrArg PV.bool (decide_eq_true (by unfold byt; omega)).symm
theorem c14b (a b c d : Int) : PC Tryd.prog 21 [.lst true 1 [[.int .i64 a], [.int .i64 b], [.int .i64 c], [.int .i64 d]]] (.bool (decide (byt a ∧ byt b ∧ byt c ∧ byt d))) := by
  refine PC.start 18 Tryd.call21 Tryd.func21 rfl Tryd.ntmps21 Tryd.results21 (by simp only [go_sem]; exact rfl) fun z hz => ?_
  refine AW.regR rfl (by simp (maxSteps := 1000000) only [go_sem] <;> exact rfl) (by first | (simp (disch := omega) only [go_sem, w64, wU] <;> exact rfl) | exact rfl) ?_
  refine AW.seq ?_
  refine AW.regR rfl (by simp (maxSteps := 1000000) only [go_sem] <;> exact rfl) (by first | (simp (disch := omega) only [go_sem, w64, wU] <;> exact rfl) | exact rfl) ?_
  refine AW.block ?_
  refine AW.rounds 5 ?_
  refine ARounds.mk ?_
  refine AW.regR rfl (by simp (maxSteps := 1000000) only [go_sem] <;> exact rfl) (by first | (simp (disch := omega) only [go_sem, w64, wU] <;> exact rfl) | exact rfl) ?_
  refine AW.seq ?_
  refine AW.condT (by simp (maxSteps := 1000000) only [go_sem] <;> exact rfl) ?_
  refine AW.skip ?_
  show AW _ _ _ _ _
  refine AW.seq ?_
  refine AW.block ?_
  refine AW.regR rfl (by simp (maxSteps := 1000000) only [go_sem] <;> exact rfl) (by first | (simp (disch := omega) only [go_sem, w64, wU] <;> exact rfl) | exact rfl) ?_
  refine AW.regR rfl (by simp (maxSteps := 1000000) only [go_sem] <;> exact rfl) (by first | (simp (disch := omega) only [go_sem, w64, wU] <;> exact rfl) | exact rfl) ?_
  refine AW.cond (by simp (maxSteps := 1000000) only [go_sem] <;> exact rfl) (fun hc1 => ?_) (fun hc1 => ?_)
  · try simp only [decide_eq_true_eq, decide_eq_false_iff_not, Bool.or_eq_true, Bool.or_eq_false_iff, Bool.and_eq_true, Bool.and_eq_false_imp, Bool.not_eq_true', Bool.not_eq_false'] at hc1
    refine AW.regR rfl (by simp (maxSteps := 1000000) only [go_sem] <;> exact rfl) (by first | (simp (disch := omega) only [go_sem, w64, wU] <;> exact rfl) | exact rfl) ?_
    refine retK.fin rfl (by simp (maxSteps := 1000000) only [go_sem] <;> exact rfl) (by simp (maxSteps := 1000000) only [go_sem] <;> exact rfl) (.of ?_)
    exact congrArg PV.bool (decide_eq_false (fun q => by unfold byt at q; omega)).symm
  · try simp only [decide_eq_true_eq, decide_eq_false_iff_not, Bool.or_eq_true, Bool.or_eq_false_iff, Bool.and_eq_true, Bool.and_eq_false_imp, Bool.not_eq_true', Bool.not_eq_false'] at hc1
    refine AW.skip ?_
    show AW _ _ _ _ _
    refine AW.regR1 rfl (by simp (maxSteps := 1000000) only [go_sem] <;> exact rfl) (by first | (simp (disch := omega) only [go_sem, w64, wU] <;> exact rfl) | exact rfl) ?_
    show ARounds _ _ _ _ _ _
    refine ARounds.mk ?_
    refine AW.regR rfl (by simp (maxSteps := 1000000) only [go_sem] <;> exact rfl) (by first | (simp (disch := omega) only [go_sem, w64, wU] <;> exact rfl) | exact rfl) ?_
    refine AW.seq ?_
    refine AW.condT (by simp (maxSteps := 1000000) only [go_sem] <;> exact rfl) ?_
    refine AW.skip ?_
    show AW _ _ _ _ _
    refine AW.seq ?_
    refine AW.block ?_
    refine AW.regR rfl (by simp (maxSteps := 1000000) only [go_sem] <;> exact rfl) (by first | (simp (disch := omega) only [go_sem, w64, wU] <;> exact rfl) | exact rfl) ?_
    refine AW.regR rfl (by simp (maxSteps := 1000000) only [go_sem] <;> exact rfl) (by first | (simp (disch := omega) only [go_sem, w64, wU] <;> exact rfl) | exact rfl) ?_
    refine AW.cond (by simp (maxSteps := 1000000) only [go_sem] <;> exact rfl) (fun hc2 => ?_) (fun hc2 => ?_)
    · try simp only [decide_eq_true_eq, decide_eq_false_iff_not, Bool.or_eq_true, Bool.or_eq_false_iff, Bool.and_eq_true, Bool.and_eq_false_imp, Bool.not_eq_true', Bool.not_eq_false'] at hc2
      refine AW.regR rfl (by simp (maxSteps := 1000000) only [go_sem] <;> exact rfl) (by first | (simp (disch := omega) only [go_sem, w64, wU] <;> exact rfl) | exact rfl) ?_
      refine retK.fin rfl (by simp (maxSteps := 1000000) only [go_sem] <;> exact rfl) (by simp (maxSteps := 1000000) only [go_sem] <;> exact rfl) (.of ?_)
      exact congrArg PV.bool (decide_eq_false (fun q => by unfold byt at q; omega)).symm
    · try simp only [decide_eq_true_eq, decide_eq_false_iff_not, Bool.or_eq_true, Bool.or_eq_false_iff, Bool.and_eq_true, Bool.and_eq_false_imp, Bool.not_eq_true', Bool.not_eq_false'] at hc2
      refine AW.skip ?_
      show AW _ _ _ _ _
      refine AW.regR1 rfl (by simp (maxSteps := 1000000) only [go_sem] <;> exact rfl) (by first | (simp (disch := omega) only [go_sem, w64, wU] <;> exact rfl) | exact rfl) ?_
      show ARounds _ _ _ _ _ _
      refine ARounds.mk ?_
      refine AW.regR rfl (by simp (maxSteps := 1000000) only [go_sem] <;> exact rfl) (by first | (simp (disch := omega) only [go_sem, w64, wU] <;> exact rfl) | exact rfl) ?_
      refine AW.seq ?_
      refine AW.condT (by simp (maxSteps := 1000000) only [go_sem] <;> exact rfl) ?_
      refine AW.skip ?_
      show AW _ _ _ _ _
      refine AW.seq ?_
      refine AW.block ?_
      refine AW.regR rfl (by simp (maxSteps := 1000000) only [go_sem] <;> exact rfl) (by first | (simp (disch := omega) only [go_sem, w64, wU] <;> exact rfl) | exact rfl) ?_
      refine AW.regR rfl (by simp (maxSteps := 1000000) only [go_sem] <;> exact rfl) (by first | (simp (disch := omega) only [go_sem, w64, wU] <;> exact rfl) | exact rfl) ?_
      refine AW.cond (by simp (maxSteps := 1000000) only [go_sem] <;> exact rfl) (fun hc3 => ?_) (fun hc3 => ?_)
      · try simp only [decide_eq_true_eq, decide_eq_false_iff_not, Bool.or_eq_true, Bool.or_eq_false_iff, Bool.and_eq_true, Bool.and_eq_false_imp, Bool.not_eq_true', Bool.not_eq_false'] at hc3
        refine AW.regR rfl (by simp (maxSteps := 1000000) only [go_sem] <;> exact rfl) (by first | (simp (disch := omega) only [go_sem, w64, wU] <;> exact rfl) | exact rfl) ?_
        refine retK.fin rfl (by simp (maxSteps := 1000000) only [go_sem] <;> exact rfl) (by simp (maxSteps := 1000000) only [go_sem] <;> exact rfl) (.of ?_)
        exact congrArg PV.bool (decide_eq_false (fun q => by unfold byt at q; omega)).symm
      · try simp only [decide_eq_true_eq, decide_eq_false_iff_not, Bool.or_eq_true, Bool.or_eq_false_iff, Bool.and_eq_true, Bool.and_eq_false_imp, Bool.not_eq_true', Bool.not_eq_false'] at hc3
        refine AW.skip ?_
        show AW _ _ _ _ _
        refine AW.regR1 rfl (by simp (maxSteps := 1000000) only [go_sem] <;> exact rfl) (by first | (simp (disch := omega) only [go_sem, w64, wU] <;> exact rfl) | exact rfl) ?_
        show ARounds _ _ _ _ _ _
        refine ARounds.mk ?_
        refine AW.regR rfl (by simp (maxSteps := 1000000) only [go_sem] <;> exact rfl) (by first | (simp (disch := omega) only [go_sem, w64, wU] <;> exact rfl) | exact rfl) ?_
        refine AW.seq ?_
        refine AW.condT (by simp (maxSteps := 1000000) only [go_sem] <;> exact rfl) ?_
        refine AW.skip ?_
        show AW _ _ _ _ _
        refine AW.seq ?_
        refine AW.block ?_
        refine AW.regR rfl (by simp (maxSteps := 1000000) only [go_sem] <;> exact rfl) (by first | (simp (disch := omega) only [go_sem, w64, wU] <;> exact rfl) | exact rfl) ?_
        refine AW.regR rfl (by simp (maxSteps := 1000000) only [go_sem] <;> exact rfl) (by first | (simp (disch := omega) only [go_sem, w64, wU] <;> exact rfl) | exact rfl) ?_
        refine AW.cond (by simp (maxSteps := 1000000) only [go_sem] <;> exact rfl) (fun hc4 => ?_) (fun hc4 => ?_)
        · try simp only [decide_eq_true_eq, decide_eq_false_iff_not, Bool.or_eq_true, Bool.or_eq_false_iff, Bool.and_eq_true, Bool.and_eq_false_imp, Bool.not_eq_true', Bool.not_eq_false'] at hc4
          refine AW.regR rfl (by simp (maxSteps := 1000000) only [go_sem] <;> exact rfl) (by first | (simp (disch := omega) only [go_sem, w64, wU] <;> exact rfl) | exact rfl) ?_
          refine retK.fin rfl (by simp (maxSteps := 1000000) only [go_sem] <;> exact rfl) (by simp (maxSteps := 1000000) only [go_sem] <;> exact rfl) (.of ?_)
          exact congrArg PV.bool (decide_eq_false (fun q => by unfold byt at q; omega)).symm
        · try simp only [decide_eq_true_eq, decide_eq_false_iff_not, Bool.or_eq_true, Bool.or_eq_false_iff, Bool.and_eq_true, Bool.and_eq_false_imp, Bool.not_eq_true', Bool.not_eq_false'] at hc4
          refine AW.skip ?_
          show AW _ _ _ _ _
          refine AW.regR1 rfl (by simp (maxSteps := 1000000) only [go_sem] <;> exact rfl) (by first | (simp (disch := omega) only [go_sem, w64, wU] <;> exact rfl) | exact rfl) ?_
          show ARounds _ _ _ _ _ _
          refine ARounds.mk ?_
          refine AW.regR rfl (by simp (maxSteps := 1000000) only [go_sem] <;> exact rfl) (by first | (simp (disch := omega) only [go_sem, w64, wU] <;> exact rfl) | exact rfl) ?_
          refine AW.seq ?_
          refine AW.condF (by simp (maxSteps := 1000000) only [go_sem] <;> exact rfl) ?_
          refine AW.exit ?_
          show AW _ _ _ _ _
          refine AW.regR rfl (by simp (maxSteps := 1000000) only [go_sem] <;> exact rfl) (by first | (simp (disch := omega) only [go_sem, w64, wU] <;> exact rfl) | exact rfl) ?_
          refine retK.fin rfl (by simp (maxSteps := 1000000) only [go_sem] <;> exact rfl) (by simp (maxSteps := 1000000) only [go_sem] <;> exact rfl) (.of ?_)
          exact congrArg PV.bool (decide_eq_true (by unfold byt; omega)).symm
theorem c25x (a b c d e f g h : Int) (ha : 0 ≤ a ∧ a < 256) (hb : 0 ≤ b ∧ b < 256) (hc : 0 ≤ c ∧ c < 256) (hd : 0 ≤ d ∧ d < 256) (he : 0 ≤ e ∧ e < 256) (hf : 0 ≤ f ∧ f < 256) (hg : 0 ≤ g ∧ g < 256) (hh : 0 ≤ h ∧ h < 256) : PC Tryd.prog 31 [.str (strOf [a, b, c, d, e, f, g, h])] (.int .u64 (num8 a b c d e f g h)) := by
  refine PC.start 19 Tryd.call31 Tryd.func31 rfl Tryd.ntmps31 Tryd.results31 (by simp only [go_sem]; exact rfl) fun z hz => ?_
  have hbt := bat8 ha hb hc hd he hf hg hh
  have b0 := hbt.1
  have b1 := hbt.2.1
  have b2 := hbt.2.2.1
  have b3 := hbt.2.2.2.1
  have b4 := hbt.2.2.2.2.1
  have b5 := hbt.2.2.2.2.2.1
  have b6 := hbt.2.2.2.2.2.2.1
  have b7 := hbt.2.2.2.2.2.2.2
  refine AW.regR rfl (by simp (maxSteps := 1000000) only [go_sem, hbt, b0, b1, b2, b3, b4, b5, b6, b7] <;> exact rfl) (by first | (simp (disch := omega) only [go_sem, w64, wU, hbt, b0, b1, b2, b3, b4, b5, b6, b7] <;> exact rfl) | exact rfl) ?_
  refine AW.regR rfl (by simp (maxSteps := 1000000) only [go_sem, hbt, b0, b1, b2, b3, b4, b5, b6, b7] <;> exact rfl) (by first | (simp (disch := omega) only [go_sem, w64, wU, hbt, b0, b1, b2, b3, b4, b5, b6, b7] <;> exact rfl) | exact rfl) ?_
  refine AW.seq ?_
  refine AW.regR rfl (by simp (maxSteps := 1000000) only [go_sem, hbt, b0, b1, b2, b3, b4, b5, b6, b7] <;> exact rfl) (by first | (simp (disch := omega) only [go_sem, w64, wU, hbt, b0, b1, b2, b3, b4, b5, b6, b7] <;> exact rfl) | exact rfl) ?_
  refine AW.block ?_
  refine AW.rounds 9 ?_
  refine ARounds.mk ?_
  refine AW.seq ?_
  refine AW.regR rfl (by simp (maxSteps := 1000000) only [go_sem, hbt, b0, b1, b2, b3, b4, b5, b6, b7] <;> exact rfl) (by first | (simp (disch := omega) only [go_sem, w64, wU, hbt, b0, b1, b2, b3, b4, b5, b6, b7] <;> exact rfl) | exact rfl) ?_
  refine AW.condT (by simp (maxSteps := 1000000) only [go_sem, hbt, b0, b1, b2, b3, b4, b5, b6, b7] <;> exact rfl) ?_
  refine AW.skip ?_
  show AW _ _ _ _ _
  refine AW.seq ?_
  refine AW.block ?_
  refine AW.regR1 rfl (by simp (maxSteps := 1000000) only [go_sem, hbt, b0, b1, b2, b3, b4, b5, b6, b7] <;> exact rfl) (by first | (simp (disch := omega) only [go_sem, w64, wU, hbt, b0, b1, b2, b3, b4, b5, b6, b7] <;> exact rfl) | exact rfl) ?_
  show AW _ _ _ _ _
  refine AW.regR1 rfl (by simp (maxSteps := 1000000) only [go_sem, hbt, b0, b1, b2, b3, b4, b5, b6, b7] <;> exact rfl) (by first | (simp (disch := omega) only [go_sem, w64, wU, hbt, b0, b1, b2, b3, b4, b5, b6, b7] <;> exact rfl) | exact rfl) ?_
  show ARounds _ _ _ _ _ _
  refine ARounds.mk ?_
  refine AW.seq ?_
  refine AW.regR rfl (by simp (maxSteps := 1000000) only [go_sem, hbt, b0, b1, b2, b3, b4, b5, b6, b7] <;> exact rfl) (by first | (simp (disch := omega) only [go_sem, w64, wU, hbt, b0, b1, b2, b3, b4, b5, b6, b7] <;> exact rfl) | exact rfl) ?_
  refine AW.condT (by simp (maxSteps := 1000000) only [go_sem, hbt, b0, b1, b2, b3, b4, b5, b6, b7] <;> exact rfl) ?_
  refine AW.skip ?_
  show AW _ _ _ _ _
  refine AW.seq ?_
  refine AW.block ?_
  refine AW.regR1 rfl (by simp (maxSteps := 1000000) only [go_sem, hbt, b0, b1, b2, b3, b4, b5, b6, b7] <;> exact rfl) (by first | (simp (disch := omega) only [go_sem, w64, wU, hbt, b0, b1, b2, b3, b4, b5, b6, b7] <;> exact rfl) | exact rfl) ?_
  show AW _ _ _ _ _
  refine AW.regR1 rfl (by simp (maxSteps := 1000000) only [go_sem, hbt, b0, b1, b2, b3, b4, b5, b6, b7] <;> exact rfl) (by first | (simp (disch := omega) only [go_sem, w64, wU, hbt, b0, b1, b2, b3, b4, b5, b6, b7] <;> exact rfl) | exact rfl) ?_
  show ARounds _ _ _ _ _ _
  refine ARounds.mk ?_
  refine AW.seq ?_
  refine AW.regR rfl (by simp (maxSteps := 1000000) only [go_sem, hbt, b0, b1, b2, b3, b4, b5, b6, b7] <;> exact rfl) (by first | (simp (disch := omega) only [go_sem, w64, wU, hbt, b0, b1, b2, b3, b4, b5, b6, b7] <;> exact rfl) | exact rfl) ?_
  refine AW.condT (by simp (maxSteps := 1000000) only [go_sem, hbt, b0, b1, b2, b3, b4, b5, b6, b7] <;> exact rfl) ?_
  refine AW.skip ?_
  show AW _ _ _ _ _
  refine AW.seq ?_
  refine AW.block ?_
  refine AW.regR1 rfl (by simp (maxSteps := 1000000) only [go_sem, hbt, b0, b1, b2, b3, b4, b5, b6, b7] <;> exact rfl) (by first | (simp (disch := omega) only [go_sem, w64, wU, hbt, b0, b1, b2, b3, b4, b5, b6, b7] <;> exact rfl) | exact rfl) ?_
  show AW _ _ _ _ _
  refine AW.regR1 rfl (by simp (maxSteps := 1000000) only [go_sem, hbt, b0, b1, b2, b3, b4, b5, b6, b7] <;> exact rfl) (by first | (simp (disch := omega) only [go_sem, w64, wU, hbt, b0, b1, b2, b3, b4, b5, b6, b7] <;> exact rfl) | exact rfl) ?_
  show ARounds _ _ _ _ _ _
  refine ARounds.mk ?_
  refine AW.seq ?_
  refine AW.regR rfl (by simp (maxSteps := 1000000) only [go_sem, hbt, b0, b1, b2, b3, b4, b5, b6, b7] <;> exact rfl) (by first | (simp (disch := omega) only [go_sem, w64, wU, hbt, b0, b1, b2, b3, b4, b5, b6, b7] <;> exact rfl) | exact rfl) ?_
  refine AW.condT (by simp (maxSteps := 1000000) only [go_sem, hbt, b0, b1, b2, b3, b4, b5, b6, b7] <;> exact rfl) ?_
  refine AW.skip ?_
  show AW _ _ _ _ _
  refine AW.seq ?_
  refine AW.block ?_
  refine AW.regR1 rfl (by simp (maxSteps := 1000000) only [go_sem, hbt, b0, b1, b2, b3, b4, b5, b6, b7] <;> exact rfl) (by first | (simp (disch := omega) only [go_sem, w64, wU, hbt, b0, b1, b2, b3, b4, b5, b6, b7] <;> exact rfl) | exact rfl) ?_
  show AW _ _ _ _ _
  refine AW.regR1 rfl (by simp (maxSteps := 1000000) only [go_sem, hbt, b0, b1, b2, b3, b4, b5, b6, b7] <;> exact rfl) (by first | (simp (disch := omega) only [go_sem, w64, wU, hbt, b0, b1, b2, b3, b4, b5, b6, b7] <;> exact rfl) | exact rfl) ?_
  show ARounds _ _ _ _ _ _
  refine ARounds.mk ?_
  refine AW.seq ?_
  refine AW.regR rfl (by simp (maxSteps := 1000000) only [go_sem, hbt, b0, b1, b2, b3, b4, b5, b6, b7] <;> exact rfl) (by first | (simp (disch := omega) only [go_sem, w64, wU, hbt, b0, b1, b2, b3, b4, b5, b6, b7] <;> exact rfl) | exact rfl) ?_
  refine AW.condT (by simp (maxSteps := 1000000) only [go_sem, hbt, b0, b1, b2, b3, b4, b5, b6, b7] <;> exact rfl) ?_
  refine AW.skip ?_
  show AW _ _ _ _ _
  refine AW.seq ?_
  refine AW.block ?_
  refine AW.regR1 rfl (by simp (maxSteps := 1000000) only [go_sem, hbt, b0, b1, b2, b3, b4, b5, b6, b7] <;> exact rfl) (by first | (simp (disch := omega) only [go_sem, w64, wU, hbt, b0, b1, b2, b3, b4, b5, b6, b7] <;> exact rfl) | exact rfl) ?_
  show AW _ _ _ _ _
  refine AW.regR1 rfl (by simp (maxSteps := 1000000) only [go_sem, hbt, b0, b1, b2, b3, b4, b5, b6, b7] <;> exact rfl) (by first | (simp (disch := omega) only [go_sem, w64, wU, hbt, b0, b1, b2, b3, b4, b5, b6, b7] <;> exact rfl) | exact rfl) ?_
  show ARounds _ _ _ _ _ _
  refine ARounds.mk ?_
  refine AW.seq ?_
  refine AW.regR rfl (by simp (maxSteps := 1000000) only [go_sem, hbt, b0, b1, b2, b3, b4, b5, b6, b7] <;> exact rfl) (by first | (simp (disch := omega) only [go_sem, w64, wU, hbt, b0, b1, b2, b3, b4, b5, b6, b7] <;> exact rfl) | exact rfl) ?_
  refine AW.condT (by simp (maxSteps := 1000000) only [go_sem, hbt, b0, b1, b2, b3, b4, b5, b6, b7] <;> exact rfl) ?_
  refine AW.skip ?_
  show AW _ _ _ _ _
  refine AW.seq ?_
  refine AW.block ?_
  refine AW.regR1 rfl (by simp (maxSteps := 1000000) only [go_sem, hbt, b0, b1, b2, b3, b4, b5, b6, b7] <;> exact rfl) (by first | (simp (disch := omega) only [go_sem, w64, wU, hbt, b0, b1, b2, b3, b4, b5, b6, b7] <;> exact rfl) | exact rfl) ?_
  show AW _ _ _ _ _
  refine AW.regR1 rfl (by simp (maxSteps := 1000000) only [go_sem, hbt, b0, b1, b2, b3, b4, b5, b6, b7] <;> exact rfl) (by first | (simp (disch := omega) only [go_sem, w64, wU, hbt, b0, b1, b2, b3, b4, b5, b6, b7] <;> exact rfl) | exact rfl) ?_
  show ARounds _ _ _ _ _ _
  refine ARounds.mk ?_
  refine AW.seq ?_
  refine AW.regR rfl (by simp (maxSteps := 1000000) only [go_sem, hbt, b0, b1, b2, b3, b4, b5, b6, b7] <;> exact rfl) (by first | (simp (disch := omega) only [go_sem, w64, wU, hbt, b0, b1, b2, b3, b4, b5, b6, b7] <;> exact rfl) | exact rfl) ?_
  refine AW.condT (by simp (maxSteps := 1000000) only [go_sem, hbt, b0, b1, b2, b3, b4, b5, b6, b7] <;> exact rfl) ?_
  refine AW.skip ?_
  show AW _ _ _ _ _
  refine AW.seq ?_
  refine AW.block ?_
  refine AW.regR1 rfl (by simp (maxSteps := 1000000) only [go_sem, hbt, b0, b1, b2, b3, b4, b5, b6, b7] <;> exact rfl) (by first | (simp (disch := omega) only [go_sem, w64, wU, hbt, b0, b1, b2, b3, b4, b5, b6, b7] <;> exact rfl) | exact rfl) ?_
  show AW _ _ _ _ _
  refine AW.regR1 rfl (by simp (maxSteps := 1000000) only [go_sem, hbt, b0, b1, b2, b3, b4, b5, b6, b7] <;> exact rfl) (by first | (simp (disch := omega) only [go_sem, w64, wU, hbt, b0, b1, b2, b3, b4, b5, b6, b7] <;> exact rfl) | exact rfl) ?_
  show ARounds _ _ _ _ _ _
  refine ARounds.mk ?_
  refine AW.seq ?_
  refine AW.regR rfl (by simp (maxSteps := 1000000) only [go_sem, hbt, b0, b1, b2, b3, b4, b5, b6, b7] <;> exact rfl) (by first | (simp (disch := omega) only [go_sem, w64, wU, hbt, b0, b1, b2, b3, b4, b5, b6, b7] <;> exact rfl) | exact rfl) ?_
  refine AW.condT (by simp (maxSteps := 1000000) only [go_sem, hbt, b0, b1, b2, b3, b4, b5, b6, b7] <;> exact rfl) ?_
  refine AW.skip ?_
  show AW _ _ _ _ _
  refine AW.seq ?_
  refine AW.block ?_
  refine AW.regR1 rfl (by simp (maxSteps := 1000000) only [go_sem, hbt, b0, b1, b2, b3, b4, b5, b6, b7] <;> exact rfl) (by first | (simp (disch := omega) only [go_sem, w64, wU, hbt, b0, b1, b2, b3, b4, b5, b6, b7] <;> exact rfl) | exact rfl) ?_
  show AW _ _ _ _ _
  refine AW.regR1 rfl (by simp (maxSteps := 1000000) only [go_sem, hbt, b0, b1, b2, b3, b4, b5, b6, b7] <;> exact rfl) (by first | (simp (disch := omega) only [go_sem, w64, wU, hbt, b0, b1, b2, b3, b4, b5, b6, b7] <;> exact rfl) | exact rfl) ?_
  show ARounds _ _ _ _ _ _
  refine ARounds.mk ?_
  refine AW.seq ?_
  refine AW.regR rfl (by simp (maxSteps := 1000000) only [go_sem, hbt, b0, b1, b2, b3, b4, b5, b6, b7] <;> exact rfl) (by first | (simp (disch := omega) only [go_sem, w64, wU, hbt, b0, b1, b2, b3, b4, b5, b6, b7] <;> exact rfl) | exact rfl) ?_
  refine AW.condF (by simp (maxSteps := 1000000) only [go_sem, hbt, b0, b1, b2, b3, b4, b5, b6, b7] <;> exact rfl) ?_
  refine AW.exit ?_
  show AW _ _ _ _ _
  refine AW.regR rfl (by simp (maxSteps := 1000000) only [go_sem, hbt, b0, b1, b2, b3, b4, b5, b6, b7] <;> exact rfl) (by first | (simp (disch := omega) only [go_sem, w64, wU, hbt, b0, b1, b2, b3, b4, b5, b6, b7] <;> exact rfl) | exact rfl) ?_
  refine retK.fin rfl (by simp (maxSteps := 1000000) only [go_sem, hbt, b0, b1, b2, b3, b4, b5, b6, b7] <;> exact rfl) (by simp (maxSteps := 1000000) only [go_sem, hbt, b0, b1, b2, b3, b4, b5, b6, b7] <;> exact rfl) (.of ?_)
  simp (disch := omega) only [wU, ior_byte_u]; unfold num8; simp
theorem c31 (l : List Int) (hl : 8 ≤ l.length) (ok : OkB l) : PC Tryd.prog 31 [.str (strOf (l.take 8))] (.int .u64 (numW l)) := by
  rw [take8 hl]; exact c25x _ _ _ _ _ _ _ _ (get_ok ok 0) (get_ok ok 1) (get_ok ok 2) (get_ok ok 3) (get_ok ok 4) (get_ok ok 5) (get_ok ok 6) (get_ok ok 7)
theorem c19 (a b : List Int) (p q : Bool) (ha : (a.length : Int) ≤ 9223372036854775807) (hb : (b.length : Int) ≤ 9223372036854775807) : PC Tryd.prog 19 [.lst p 1 (a.map wdR), .lst q 1 (b.map wdR)] (.bool (decide (a = b))) := by
  refine PC.start 26 Tryd.call19 Tryd.func19 rfl Tryd.ntmps19 Tryd.results19 (by simp only [go_sem]; exact rfl) fun z hz => ?_
  refine AW.regR rfl (by simp (maxSteps := 1000000) only [go_sem] <;> exact rfl) (by first | (simp (disch := omega) only [go_sem, w64, wU] <;> exact rfl) | exact rfl) ?_
  refine AW.seq ?_
  refine AW.regR rfl (by simp (maxSteps := 1000000) only [go_sem] <;> exact rfl) (by first | (simp (disch := omega) only [go_sem, w64, wU] <;> exact rfl) | exact rfl) ?_
  refine AW.cond (by simp (maxSteps := 1000000) only [go_sem] <;> exact rfl) (fun hc1 => ?_) (fun hc1 => ?_)
  · try simp only [decide_eq_true_eq, decide_eq_false_iff_not, Bool.or_eq_true, Bool.or_eq_false_iff, Bool.and_eq_true, Bool.and_eq_false_imp, Bool.not_eq_true', Bool.not_eq_false'] at hc1
    refine AW.regR rfl (by simp (maxSteps := 1000000) only [go_sem] <;> exact rfl) (by first | (simp (disch := omega) only [go_sem, w64, wU] <;> exact rfl) | exact rfl) ?_
    refine retK.fin rfl (by simp (maxSteps := 1000000) only [go_sem] <;> exact rfl) (by simp (maxSteps := 1000000) only [go_sem] <;> exact rfl) (.of ?_)
    have : a ≠ b := fun e => by subst e; omega
    simp [this]
  · try simp only [decide_eq_true_eq, decide_eq_false_iff_not, Bool.or_eq_true, Bool.or_eq_false_iff, Bool.and_eq_true, Bool.and_eq_false_imp, Bool.not_eq_true', Bool.not_eq_false'] at hc1
    refine AW.skip ?_
    show AW _ _ _ _ _
    refine AW.seq ?_
    refine AW.regR rfl (by simp (maxSteps := 1000000) only [go_sem] <;> exact rfl) (by first | (simp (disch := omega) only [go_sem, w64, wU] <;> exact rfl) | exact rfl) ?_
    refine AW.block ?_
    refine AW.loopVh (α := (Int)) (fun (i : (Int)) => [(5, .pv (.int .i64 i))]) (fun (i : (Int)) => (0 ≤ i) ∧ (i ≤ (a.length : Int)) ∧ (∀ j : Nat, (j : Int) < i → a.getD j 0 = b.getD j 0)) (fun (i : (Int)) => ((a.length : Int) - i).toNat) 0 ?_ ?_ ?_
    · exact ⟨by omega, by omega, fun j hj => by omega⟩
    · refine Wk.sub ?_
      simp (maxSteps := 1000000) (disch := omega) only [go_sem, w64, wU]
    · rintro i hF _ ht
      simp only [updT, go_sem] at ht
      subst ht
      obtain ⟨h1, h2, h3⟩ := hF
      refine AW.seq ?_
      refine AW.regR rfl (by simp (maxSteps := 1000000) only [go_sem] <;> exact rfl) (by first | (simp (disch := omega) only [go_sem, w64, wU] <;> exact rfl) | exact rfl) ?_
      refine AW.cond (by simp (maxSteps := 1000000) only [go_sem] <;> exact rfl) (fun hc2 => ?_) (fun hc2 => ?_)
      · try simp only [decide_eq_true_eq, decide_eq_false_iff_not, Bool.or_eq_true, Bool.or_eq_false_iff, Bool.and_eq_true, Bool.and_eq_false_imp, Bool.not_eq_true', Bool.not_eq_false'] at hc2
        have hr1 : (a.map wdR)[i.toNat]? = some (wdR (a.getD i.toNat 0)) := wdx_at ⟨h1, hc2⟩
        have hr2 : (b.map wdR)[i.toNat]? = some (wdR (b.getD i.toNat 0)) := wdx_at ⟨h1, by omega⟩
        have g1 : 0 ≤ i := h1
        have g2 : i < (a.length : Int) := hc2
        have g3 : i < (b.length : Int) := by omega
        have hwi : IntKind.i64.wrap (i + 1) = i + 1 := w64 (by omega) (by omega)
        refine AW.skip ?_
        show AW _ _ _ _ _
        refine AW.seq ?_
        refine AW.block ?_
        refine AW.regDS follows (by kernel_rfl) ?_
        refine ARE.run1 (by simp (maxSteps := 1000000) only [go_sem, hr1, hr2, g1, g2, g3, hwi] <;> exact rfl) ?_
        refine ARE.fin [0, 0, 3, 7, 0, 0, 48, 112, 255] _ (by kernel_rfl) (by simp (maxSteps := 1000000) only [go_sem, hr1, hr2, g1, g2, g3, hwi] <;> exact rfl) (by kernel_rfl) (by first | (simp (disch := omega) only [go_sem, w64, wU, hr1, hr2, g1, g2, g3, hwi] <;> exact rfl) | exact rfl) ?_
        refine AW.cond (by simp (maxSteps := 1000000) only [go_sem, hr1, hr2, g1, g2, g3, hwi] <;> exact rfl) (fun hc3 => ?_) (fun hc3 => ?_)
        · skip
          refine AW.regR rfl (by simp (maxSteps := 1000000) only [go_sem, hr1, hr2, g1, g2, g3, hwi] <;> exact rfl) (by first | (simp (disch := omega) only [go_sem, w64, wU, hr1, hr2, g1, g2, g3, hwi] <;> exact rfl) | exact rfl) ?_
          refine retK.fin rfl (by simp (maxSteps := 1000000) only [go_sem, hr1, hr2, g1, g2, g3, hwi] <;> exact rfl) (by simp (maxSteps := 1000000) only [go_sem, hr1, hr2, g1, g2, g3, hwi] <;> exact rfl) (.of ?_)
          have : a ≠ b := fun e => by subst e; simp at hc3
          simp [this]
        · skip
          refine AW.skip ?_
          show AW _ _ _ _ _
          refine AW.regR1 rfl (by simp (maxSteps := 1000000) only [go_sem, hr1, hr2, g1, g2, g3, hwi] <;> exact rfl) (by first | (simp (disch := omega) only [go_sem, w64, wU, hr1, hr2, g1, g2, g3, hwi] <;> exact rfl) | exact rfl) ?_
          refine ⟨(i + 1), ?_, ?_, ?_⟩
          · (try dsimp only); omega
          · exact ⟨by omega, by omega, fun j hj => if e : (j : Int) < i then h3 j e else by (have hji : j = i.toNat := by omega); subst hji; simpa using hc3⟩
          · refine Wk.sub ?_
            simp (maxSteps := 1000000) (disch := omega) only [go_sem, w64, wU, hr1, hr2, g1, g2, g3, hwi]
      · try simp only [decide_eq_true_eq, decide_eq_false_iff_not, Bool.or_eq_true, Bool.or_eq_false_iff, Bool.and_eq_true, Bool.and_eq_false_imp, Bool.not_eq_true', Bool.not_eq_false'] at hc2
        refine AW.exit ?_
        show AW _ _ _ _ _
        refine AW.regR rfl (by simp (maxSteps := 1000000) only [go_sem] <;> exact rfl) (by first | (simp (disch := omega) only [go_sem, w64, wU] <;> exact rfl) | exact rfl) ?_
        refine retK.fin rfl (by simp (maxSteps := 1000000) only [go_sem] <;> exact rfl) (by simp (maxSteps := 1000000) only [go_sem] <;> exact rfl) (.of ?_)
        have : a = b := list_ext (d := 0) (by omega) (fun j hj => h3 j (by omega))
        simp [this]
theorem c20 (a b : List Ins) (p q : Bool) (ha : (a.length : Int) ≤ 9223372036854775807) (hb : (b.length : Int) ≤ 9223372036854775807) : PC Tryd.prog 20 [.lst p 5 (a.map inR), .lst q 5 (b.map inR)] (.bool (decide (a = b))) := by
  refine PC.start 26 Tryd.call20 Tryd.func20 rfl Tryd.ntmps20 Tryd.results20 (by simp only [go_sem]; exact rfl) fun z hz => ?_
  refine AW.regR rfl (by simp (maxSteps := 1000000) only [go_sem] <;> exact rfl) (by first | (simp (disch := omega) only [go_sem, w64, wU] <;> exact rfl) | exact rfl) ?_
  refine AW.seq ?_
  refine AW.regR rfl (by simp (maxSteps := 1000000) only [go_sem] <;> exact rfl) (by first | (simp (disch := omega) only [go_sem, w64, wU] <;> exact rfl) | exact rfl) ?_
  refine AW.cond (by simp (maxSteps := 1000000) only [go_sem] <;> exact rfl) (fun hc1 => ?_) (fun hc1 => ?_)
  · try simp only [decide_eq_true_eq, decide_eq_false_iff_not, Bool.or_eq_true, Bool.or_eq_false_iff, Bool.and_eq_true, Bool.and_eq_false_imp, Bool.not_eq_true', Bool.not_eq_false'] at hc1
    refine AW.regR rfl (by simp (maxSteps := 1000000) only [go_sem] <;> exact rfl) (by first | (simp (disch := omega) only [go_sem, w64, wU] <;> exact rfl) | exact rfl) ?_
    refine retK.fin rfl (by simp (maxSteps := 1000000) only [go_sem] <;> exact rfl) (by simp (maxSteps := 1000000) only [go_sem] <;> exact rfl) (.of ?_)
    have : a ≠ b := fun e => by subst e; omega
    simp [this]
  · try simp only [decide_eq_true_eq, decide_eq_false_iff_not, Bool.or_eq_true, Bool.or_eq_false_iff, Bool.and_eq_true, Bool.and_eq_false_imp, Bool.not_eq_true', Bool.not_eq_false'] at hc1
    refine AW.skip ?_
    show AW _ _ _ _ _
    refine AW.seq ?_
    refine AW.regR rfl (by simp (maxSteps := 1000000) only [go_sem] <;> exact rfl) (by first | (simp (disch := omega) only [go_sem, w64, wU] <;> exact rfl) | exact rfl) ?_
    refine AW.block ?_
    refine AW.loopVh (α := (Int)) (fun (i : (Int)) => [(5, .pv (.int .i64 i))]) (fun (i : (Int)) => (0 ≤ i) ∧ (i ≤ (a.length : Int)) ∧ (∀ j : Nat, (j : Int) < i → a.getD j i0 = b.getD j i0)) (fun (i : (Int)) => ((a.length : Int) - i).toNat) 0 ?_ ?_ ?_
    · exact ⟨by omega, by omega, fun j hj => by omega⟩
    · refine Wk.sub ?_
      simp (maxSteps := 1000000) (disch := omega) only [go_sem, w64, wU]
    · rintro i hF _ ht
      simp only [updT, go_sem] at ht
      subst ht
      obtain ⟨h1, h2, h3⟩ := hF
      refine AW.seq ?_
      refine AW.regR rfl (by simp (maxSteps := 1000000) only [go_sem] <;> exact rfl) (by first | (simp (disch := omega) only [go_sem, w64, wU] <;> exact rfl) | exact rfl) ?_
      refine AW.cond (by simp (maxSteps := 1000000) only [go_sem] <;> exact rfl) (fun hc2 => ?_) (fun hc2 => ?_)
      · try simp only [decide_eq_true_eq, decide_eq_false_iff_not, Bool.or_eq_true, Bool.or_eq_false_iff, Bool.and_eq_true, Bool.and_eq_false_imp, Bool.not_eq_true', Bool.not_eq_false'] at hc2
        have hr1 : (a.map inR)[i.toNat]? = some (inR (a.getD i.toNat i0)) := inx_at ⟨h1, hc2⟩
        have hr2 : (b.map inR)[i.toNat]? = some (inR (b.getD i.toNat i0)) := inx_at ⟨h1, by omega⟩
        have g1 : 0 ≤ i := h1
        have g2 : i < (a.length : Int) := hc2
        have g3 : i < (b.length : Int) := by omega
        have hwi : IntKind.i64.wrap (i + 1) = i + 1 := w64 (by omega) (by omega)
        refine AW.skip ?_
        show AW _ _ _ _ _
        refine AW.seq ?_
        refine AW.block ?_
        refine AW.regDS follows (by kernel_rfl) ?_
        refine ARE.run1 (by simp (maxSteps := 1000000) only [go_sem, hr1, hr2, g1, g2, g3, hwi] <;> exact rfl) ?_
        refine ARE.fin [0, 0, 3, 7, 0, 0, 48, 112, 255] _ (by kernel_rfl) (by simp (maxSteps := 1000000) only [go_sem, hr1, hr2, g1, g2, g3, hwi] <;> exact rfl) (by kernel_rfl) (by first | (simp (disch := omega) only [go_sem, w64, wU, hr1, hr2, g1, g2, g3, hwi] <;> exact rfl) | exact rfl) ?_
        refine AW.cond (by simp (maxSteps := 1000000) only [go_sem, hr1, hr2, g1, g2, g3, hwi] <;> exact rfl) (fun hc3 => ?_) (fun hc3 => ?_)
        · skip
          refine AW.regR rfl (by simp (maxSteps := 1000000) only [go_sem, hr1, hr2, g1, g2, g3, hwi] <;> exact rfl) (by first | (simp (disch := omega) only [go_sem, w64, wU, hr1, hr2, g1, g2, g3, hwi] <;> exact rfl) | exact rfl) ?_
          refine retK.fin rfl (by simp (maxSteps := 1000000) only [go_sem, hr1, hr2, g1, g2, g3, hwi] <;> exact rfl) (by simp (maxSteps := 1000000) only [go_sem, hr1, hr2, g1, g2, g3, hwi] <;> exact rfl) (.of ?_)
          have : a ≠ b := fun e => by subst e; simp at hc3
          simp [this]
        · skip
          refine AW.skip ?_
          show AW _ _ _ _ _
          refine AW.regR1 rfl (by simp (maxSteps := 1000000) only [go_sem, hr1, hr2, g1, g2, g3, hwi] <;> exact rfl) (by first | (simp (disch := omega) only [go_sem, w64, wU, hr1, hr2, g1, g2, g3, hwi] <;> exact rfl) | exact rfl) ?_
          refine ⟨(i + 1), ?_, ?_, ?_⟩
          · (try dsimp only); omega
          · exact ⟨by omega, by omega, fun j hj => if e : (j : Int) < i then h3 j e else by (have hji : j = i.toNat := by omega); subst hji; simp only [Bool.not_eq_false', Bool.and_eq_true, decide_eq_true_eq] at hc3; obtain ⟨q1, q2, q3, q4, q5⟩ := hc3; exact Prod.ext q1 (Prod.ext q2 (Prod.ext q3 (Prod.ext q4 q5)))⟩
          · refine Wk.sub ?_
            simp (maxSteps := 1000000) (disch := omega) only [go_sem, w64, wU, hr1, hr2, g1, g2, g3, hwi]
      · try simp only [decide_eq_true_eq, decide_eq_false_iff_not, Bool.or_eq_true, Bool.or_eq_false_iff, Bool.and_eq_true, Bool.and_eq_false_imp, Bool.not_eq_true', Bool.not_eq_false'] at hc2
        refine AW.exit ?_
        show AW _ _ _ _ _
        refine AW.regR rfl (by simp (maxSteps := 1000000) only [go_sem] <;> exact rfl) (by first | (simp (disch := omega) only [go_sem, w64, wU] <;> exact rfl) | exact rfl) ?_
        refine retK.fin rfl (by simp (maxSteps := 1000000) only [go_sem] <;> exact rfl) (by simp (maxSteps := 1000000) only [go_sem] <;> exact rfl) (.of ?_)
        have : a = b := list_ext (d := i0) (by omega) (fun j hj => h3 j (by omega))
        simp [this]
end Go.Ab.Tryd
