/- The functions of the instructions' layer, each with what it returns. -/
import Derived.Test.YtalgjggmhhdkkaaDoorIL
import Derived.Test.YtalgjggmhhdkkaaDoorImF
import Derived.Test.YtalgjggmhhdkkaaDoorTy
import Derived.Laws.StandIn
namespace Go.Ab.Tryd
open Go.Proofs Go.Ab Go.RowKit
set_option linter.unusedVariables false
set_option linter.unusedSimpArgs false
set_option linter.unnecessarySimpa false
set_option maxRecDepth 100000
theorem c40 (op : Int) : PC Tryd.prog 40 [.int .i64 op] (.str (nameS op)) := by
  refine PC.start 13 Tryd.call40 Tryd.func40 rfl Tryd.ntmps40 Tryd.results40 (by simp only [go_sem]; exact rfl) fun z hz => ?_
  refine AW.regR rfl (by simp (maxSteps := 1000000) only [go_sem] <;> exact rfl) (by first | (simp (disch := omega) only [go_sem, w64, wU] <;> exact rfl) | exact rfl) ?_
  refine AW.seq ?_
  refine AW.regR rfl (by simp (maxSteps := 1000000) only [go_sem] <;> exact rfl) (by first | (simp (disch := omega) only [go_sem, w64, wU] <;> exact rfl) | exact rfl) ?_
  refine AW.cond (by simp (maxSteps := 1000000) only [go_sem] <;> exact rfl) (fun hc1 => ?_) (fun hc1 => ?_)
  · try simp only [decide_eq_true_eq, decide_eq_false_iff_not, Bool.or_eq_true, Bool.or_eq_false_iff, Bool.and_eq_true, Bool.and_eq_false_imp, Bool.not_eq_true', Bool.not_eq_false'] at hc1
    refine AW.regR rfl (by simp (maxSteps := 1000000) only [go_sem] <;> exact rfl) (by first | (simp (disch := omega) only [go_sem, w64, wU] <;> exact rfl) | exact rfl) ?_
    refine retK.fin rfl (by simp (maxSteps := 1000000) only [go_sem] <;> exact rfl) (by simp (maxSteps := 1000000) only [go_sem] <;> exact rfl) (.of ?_)
    rw [name_out (by omega)]
  · try simp only [decide_eq_true_eq, decide_eq_false_iff_not, Bool.or_eq_true, Bool.or_eq_false_iff, Bool.and_eq_true, Bool.and_eq_false_imp, Bool.not_eq_true', Bool.not_eq_false'] at hc1
    refine AW.skip ?_
    show AW _ _ _ _ _
    rcases (show op = 1 ∨ op = 2 ∨ op = 3 ∨ op = 4 ∨ op = 5 ∨ op = 6 ∨ op = 7 ∨ op = 8 ∨ op = 9 ∨ op = 10 ∨ op = 11 ∨ op = 12 ∨ op = 13 ∨ op = 14 ∨ op = 15 by omega) with rfl | rfl | rfl | rfl | rfl | rfl | rfl | rfl | rfl | rfl | rfl | rfl | rfl | rfl | rfl
    all_goals
      refine AW.regR rfl (by simp (maxSteps := 1000000) only [go_sem] <;> exact rfl) (by first | (simp (disch := omega) only [go_sem, w64, wU] <;> exact rfl) | exact rfl) ?_
      refine retK.fin rfl (by simp (maxSteps := 1000000) only [go_sem] <;> exact rfl) (by simp (maxSteps := 1000000) only [go_sem] <;> exact rfl) (.of ?_)
      rfl
theorem c36 (op : Int) : PC Tryd.prog 36 [.int .i64 op] (.str (shapeS op)) := by
  refine PC.start 17 Tryd.call36 Tryd.func36 rfl Tryd.ntmps36 Tryd.results36 (by simp only [go_sem]; exact rfl) fun z hz => ?_
  refine AW.regR rfl (by simp (maxSteps := 1000000) only [go_sem] <;> exact rfl) (by first | (simp (disch := omega) only [go_sem, w64, wU] <;> exact rfl) | exact rfl) ?_
  refine AW.regR rfl (by simp (maxSteps := 1000000) only [go_sem] <;> exact rfl) (by first | (simp (disch := omega) only [go_sem, w64, wU] <;> exact rfl) | exact rfl) ?_
  refine AW.seq ?_
  refine AW.regR rfl (by simp (maxSteps := 1000000) only [go_sem] <;> exact rfl) (by first | (simp (disch := omega) only [go_sem, w64, wU] <;> exact rfl) | exact rfl) ?_
  refine AW.cond (by simp (maxSteps := 1000000) only [go_sem] <;> exact rfl) (fun hc1 => ?_) (fun hc1 => ?_)
  · try simp only [decide_eq_true_eq, decide_eq_false_iff_not, Bool.or_eq_true, Bool.or_eq_false_iff, Bool.and_eq_true, Bool.and_eq_false_imp, Bool.not_eq_true', Bool.not_eq_false'] at hc1
    refine AW.regR rfl (by simp (maxSteps := 1000000) only [go_sem] <;> exact rfl) (by first | (simp (disch := omega) only [go_sem, w64, wU] <;> exact rfl) | exact rfl) ?_
    refine retK.fin rfl (by simp (maxSteps := 1000000) only [go_sem] <;> exact rfl) (by simp (maxSteps := 1000000) only [go_sem] <;> exact rfl) (.of ?_)
    rw [shape_out (by omega)]
  · try simp only [decide_eq_true_eq, decide_eq_false_iff_not, Bool.or_eq_true, Bool.or_eq_false_iff, Bool.and_eq_true, Bool.and_eq_false_imp, Bool.not_eq_true', Bool.not_eq_false'] at hc1
    refine AW.skip ?_
    show AW _ _ _ _ _
    rcases (show op = 0 ∨ op = 1 ∨ op = 2 ∨ op = 3 ∨ op = 4 ∨ op = 5 ∨ op = 6 ∨ op = 7 ∨ op = 8 ∨ op = 9 ∨ op = 10 ∨ op = 11 ∨ op = 12 ∨ op = 13 ∨ op = 14 ∨ op = 15 by omega) with rfl | rfl | rfl | rfl | rfl | rfl | rfl | rfl | rfl | rfl | rfl | rfl | rfl | rfl | rfl | rfl
    all_goals
      refine AW.regR rfl (by simp (maxSteps := 1000000) only [go_sem] <;> exact rfl) (by first | (simp (disch := omega) only [go_sem, w64, wU] <;> exact rfl) | exact rfl) ?_
      refine retK.fin rfl (by simp (maxSteps := 1000000) only [go_sem] <;> exact rfl) (by simp (maxSteps := 1000000) only [go_sem] <;> exact rfl) (.of ?_)
      rfl
theorem c41 (op : Int) : PC Tryd.prog 41 [.int .i64 op] (.str (shapeS op)) := by
  refine PC.start 27 Tryd.call41 Tryd.func41 rfl Tryd.ntmps41 Tryd.results41 (by simp only [go_sem]; exact rfl) fun z hz => ?_
  refine AW.regR rfl (by simp (maxSteps := 1000000) only [go_sem] <;> exact rfl) (by first | (simp (disch := omega) only [go_sem, w64, wU] <;> exact rfl) | exact rfl) ?_
  refine AW.regR rfl (by simp (maxSteps := 1000000) only [go_sem] <;> exact rfl) (by first | (simp (disch := omega) only [go_sem, w64, wU] <;> exact rfl) | exact rfl) ?_
  refine AW.seq ?_
  refine AW.regR rfl (by simp (maxSteps := 1000000) only [go_sem] <;> exact rfl) (by first | (simp (disch := omega) only [go_sem, w64, wU] <;> exact rfl) | exact rfl) ?_
  refine AW.block ?_
  refine AW.seq ?_
  refine AW.block ?_
  refine AW.seq ?_
  refine AW.block ?_
  refine AW.seq ?_
  refine AW.block ?_
  refine AW.seq ?_
  refine AW.block ?_
  refine AW.seq ?_
  refine AW.block ?_
  refine AW.seq ?_
  refine AW.block ?_
  refine AW.seq ?_
  refine AW.seq ?_
  refine AW.regR rfl (by simp (maxSteps := 1000000) only [go_sem] <;> exact rfl) (by first | (simp (disch := omega) only [go_sem, w64, wU] <;> exact rfl) | exact rfl) ?_
  refine AW.cond (by simp (maxSteps := 1000000) only [go_sem] <;> exact rfl) (fun hc1 => ?_) (fun hc1 => ?_)
  · try simp only [decide_eq_true_eq, decide_eq_false_iff_not, Bool.or_eq_true, Bool.or_eq_false_iff, Bool.and_eq_true, Bool.and_eq_false_imp, Bool.not_eq_true', Bool.not_eq_false'] at hc1
    refine AW.exit ?_
    show AW _ _ _ _ _
    refine AW.seq ?_
    refine AW.regR rfl (by simp (maxSteps := 1000000) only [go_sem] <;> exact rfl) (by first | (simp (disch := omega) only [go_sem, w64, wU] <;> exact rfl) | exact rfl) ?_
    refine retK.fin rfl (by simp (maxSteps := 1000000) only [go_sem] <;> exact rfl) (by simp (maxSteps := 1000000) only [go_sem] <;> exact rfl) (.of ?_)
    obtain rfl : op = 3 := by assumption
    exact congrArg PV.str (by decide +kernel)
  · try simp only [decide_eq_true_eq, decide_eq_false_iff_not, Bool.or_eq_true, Bool.or_eq_false_iff, Bool.and_eq_true, Bool.and_eq_false_imp, Bool.not_eq_true', Bool.not_eq_false'] at hc1
    refine AW.skip ?_
    show AW _ _ _ _ _
    refine AW.seq ?_
    refine AW.regR rfl (by simp (maxSteps := 1000000) only [go_sem] <;> exact rfl) (by first | (simp (disch := omega) only [go_sem, w64, wU] <;> exact rfl) | exact rfl) ?_
    refine AW.cond (by simp (maxSteps := 1000000) only [go_sem] <;> exact rfl) (fun hc2 => ?_) (fun hc2 => ?_)
    · try simp only [decide_eq_true_eq, decide_eq_false_iff_not, Bool.or_eq_true, Bool.or_eq_false_iff, Bool.and_eq_true, Bool.and_eq_false_imp, Bool.not_eq_true', Bool.not_eq_false'] at hc2
      refine AW.exit ?_
      show AW _ _ _ _ _
      refine AW.seq ?_
      refine AW.regR rfl (by simp (maxSteps := 1000000) only [go_sem] <;> exact rfl) (by first | (simp (disch := omega) only [go_sem, w64, wU] <;> exact rfl) | exact rfl) ?_
      refine retK.fin rfl (by simp (maxSteps := 1000000) only [go_sem] <;> exact rfl) (by simp (maxSteps := 1000000) only [go_sem] <;> exact rfl) (.of ?_)
      obtain rfl : op = 4 := by assumption
      exact congrArg PV.str (by decide +kernel)
    · try simp only [decide_eq_true_eq, decide_eq_false_iff_not, Bool.or_eq_true, Bool.or_eq_false_iff, Bool.and_eq_true, Bool.and_eq_false_imp, Bool.not_eq_true', Bool.not_eq_false'] at hc2
      refine AW.skip ?_
      show AW _ _ _ _ _
      refine AW.seq ?_
      refine AW.seq ?_
      refine AW.regR rfl (by simp (maxSteps := 1000000) only [go_sem] <;> exact rfl) (by first | (simp (disch := omega) only [go_sem, w64, wU] <;> exact rfl) | exact rfl) ?_
      refine AW.cond (by simp (maxSteps := 1000000) only [go_sem] <;> exact rfl) (fun hc3 => ?_) (fun hc3 => ?_)
      · try simp only [decide_eq_true_eq, decide_eq_false_iff_not, Bool.or_eq_true, Bool.or_eq_false_iff, Bool.and_eq_true, Bool.and_eq_false_imp, Bool.not_eq_true', Bool.not_eq_false'] at hc3
        have h3 : op = 2 := hc3
        refine AW.skip ?_
        show AW _ _ _ _ _
        refine AW.condT (by simp (maxSteps := 1000000) only [go_sem, h3] <;> exact rfl) ?_
        refine AW.exit ?_
        show AW _ _ _ _ _
        refine AW.seq ?_
        refine AW.regR rfl (by simp (maxSteps := 1000000) only [go_sem, h3] <;> exact rfl) (by first | (simp (disch := omega) only [go_sem, w64, wU, h3] <;> exact rfl) | exact rfl) ?_
        refine retK.fin rfl (by simp (maxSteps := 1000000) only [go_sem, h3] <;> exact rfl) (by simp (maxSteps := 1000000) only [go_sem, h3] <;> exact rfl) (.of ?_)
        obtain rfl : op = 2 := by assumption
        exact congrArg PV.str (by decide +kernel)
      · try simp only [decide_eq_true_eq, decide_eq_false_iff_not, Bool.or_eq_true, Bool.or_eq_false_iff, Bool.and_eq_true, Bool.and_eq_false_imp, Bool.not_eq_true', Bool.not_eq_false'] at hc3
        refine AW.regR rfl (by simp (maxSteps := 1000000) only [go_sem] <;> exact rfl) (by first | (simp (disch := omega) only [go_sem, w64, wU] <;> exact rfl) | exact rfl) ?_
        refine AW.cond (by simp (maxSteps := 1000000) only [go_sem] <;> exact rfl) (fun hc5 => ?_) (fun hc5 => ?_)
        · try simp only [decide_eq_true_eq, decide_eq_false_iff_not, Bool.or_eq_true, Bool.or_eq_false_iff, Bool.and_eq_true, Bool.and_eq_false_imp, Bool.not_eq_true', Bool.not_eq_false'] at hc5
          have h5 : op = 7 := hc5
          refine AW.skip ?_
          show AW _ _ _ _ _
          refine AW.condT (by simp (maxSteps := 1000000) only [go_sem, h5] <;> exact rfl) ?_
          refine AW.exit ?_
          show AW _ _ _ _ _
          refine AW.seq ?_
          refine AW.regR rfl (by simp (maxSteps := 1000000) only [go_sem, h5] <;> exact rfl) (by first | (simp (disch := omega) only [go_sem, w64, wU, h5] <;> exact rfl) | exact rfl) ?_
          refine retK.fin rfl (by simp (maxSteps := 1000000) only [go_sem, h5] <;> exact rfl) (by simp (maxSteps := 1000000) only [go_sem, h5] <;> exact rfl) (.of ?_)
          obtain rfl : op = 7 := by assumption
          exact congrArg PV.str (by decide +kernel)
        · try simp only [decide_eq_true_eq, decide_eq_false_iff_not, Bool.or_eq_true, Bool.or_eq_false_iff, Bool.and_eq_true, Bool.and_eq_false_imp, Bool.not_eq_true', Bool.not_eq_false'] at hc5
          refine AW.regR rfl (by simp (maxSteps := 1000000) only [go_sem] <;> exact rfl) (by first | (simp (disch := omega) only [go_sem, w64, wU] <;> exact rfl) | exact rfl) ?_
          refine AW.cond (by simp (maxSteps := 1000000) only [go_sem] <;> exact rfl) (fun hc7 => ?_) (fun hc7 => ?_)
          · try simp only [decide_eq_true_eq, decide_eq_false_iff_not, Bool.or_eq_true, Bool.or_eq_false_iff, Bool.and_eq_true, Bool.and_eq_false_imp, Bool.not_eq_true', Bool.not_eq_false'] at hc7
            have h7 : op = 8 := hc7
            refine AW.skip ?_
            show AW _ _ _ _ _
            refine AW.condT (by simp (maxSteps := 1000000) only [go_sem, h7] <;> exact rfl) ?_
            refine AW.exit ?_
            show AW _ _ _ _ _
            refine AW.seq ?_
            refine AW.regR rfl (by simp (maxSteps := 1000000) only [go_sem, h7] <;> exact rfl) (by first | (simp (disch := omega) only [go_sem, w64, wU, h7] <;> exact rfl) | exact rfl) ?_
            refine retK.fin rfl (by simp (maxSteps := 1000000) only [go_sem, h7] <;> exact rfl) (by simp (maxSteps := 1000000) only [go_sem, h7] <;> exact rfl) (.of ?_)
            obtain rfl : op = 8 := by assumption
            exact congrArg PV.str (by decide +kernel)
          · try simp only [decide_eq_true_eq, decide_eq_false_iff_not, Bool.or_eq_true, Bool.or_eq_false_iff, Bool.and_eq_true, Bool.and_eq_false_imp, Bool.not_eq_true', Bool.not_eq_false'] at hc7
            refine AW.regR rfl (by simp (maxSteps := 1000000) only [go_sem] <;> exact rfl) (by first | (simp (disch := omega) only [go_sem, w64, wU] <;> exact rfl) | exact rfl) ?_
            refine AW.cond (by simp (maxSteps := 1000000) only [go_sem] <;> exact rfl) (fun hc9 => ?_) (fun hc9 => ?_)
            · try simp only [decide_eq_true_eq, decide_eq_false_iff_not, Bool.or_eq_true, Bool.or_eq_false_iff, Bool.and_eq_true, Bool.and_eq_false_imp, Bool.not_eq_true', Bool.not_eq_false'] at hc9
              have h9 : op = 10 := hc9
              refine AW.skip ?_
              show AW _ _ _ _ _
              refine AW.condT (by simp (maxSteps := 1000000) only [go_sem, h9] <;> exact rfl) ?_
              refine AW.exit ?_
              show AW _ _ _ _ _
              refine AW.seq ?_
              refine AW.regR rfl (by simp (maxSteps := 1000000) only [go_sem, h9] <;> exact rfl) (by first | (simp (disch := omega) only [go_sem, w64, wU, h9] <;> exact rfl) | exact rfl) ?_
              refine retK.fin rfl (by simp (maxSteps := 1000000) only [go_sem, h9] <;> exact rfl) (by simp (maxSteps := 1000000) only [go_sem, h9] <;> exact rfl) (.of ?_)
              obtain rfl : op = 10 := by assumption
              exact congrArg PV.str (by decide +kernel)
            · try simp only [decide_eq_true_eq, decide_eq_false_iff_not, Bool.or_eq_true, Bool.or_eq_false_iff, Bool.and_eq_true, Bool.and_eq_false_imp, Bool.not_eq_true', Bool.not_eq_false'] at hc9
              refine AW.regR1 rfl (by simp (maxSteps := 1000000) only [go_sem] <;> exact rfl) (by first | (simp (disch := omega) only [go_sem, w64, wU] <;> exact rfl) | exact rfl) ?_
              show AW _ _ _ _ _
              refine AW.cond (by simp (maxSteps := 1000000) only [go_sem] <;> exact rfl) (fun hc11 => ?_) (fun hc11 => ?_)
              · try simp only [decide_eq_true_eq, decide_eq_false_iff_not, Bool.or_eq_true, Bool.or_eq_false_iff, Bool.and_eq_true, Bool.and_eq_false_imp, Bool.not_eq_true', Bool.not_eq_false'] at hc11
                refine AW.exit ?_
                show AW _ _ _ _ _
                refine AW.seq ?_
                refine AW.regR rfl (by simp (maxSteps := 1000000) only [go_sem] <;> exact rfl) (by first | (simp (disch := omega) only [go_sem, w64, wU] <;> exact rfl) | exact rfl) ?_
                refine retK.fin rfl (by simp (maxSteps := 1000000) only [go_sem] <;> exact rfl) (by simp (maxSteps := 1000000) only [go_sem] <;> exact rfl) (.of ?_)
                obtain rfl : op = 11 := by assumption
                exact congrArg PV.str (by decide +kernel)
              · try simp only [decide_eq_true_eq, decide_eq_false_iff_not, Bool.or_eq_true, Bool.or_eq_false_iff, Bool.and_eq_true, Bool.and_eq_false_imp, Bool.not_eq_true', Bool.not_eq_false'] at hc11
                refine AW.skip ?_
                show AW _ _ _ _ _
                refine AW.seq ?_
                refine AW.regR rfl (by simp (maxSteps := 1000000) only [go_sem] <;> exact rfl) (by first | (simp (disch := omega) only [go_sem, w64, wU] <;> exact rfl) | exact rfl) ?_
                refine AW.cond (by simp (maxSteps := 1000000) only [go_sem] <;> exact rfl) (fun hc12 => ?_) (fun hc12 => ?_)
                · try simp only [decide_eq_true_eq, decide_eq_false_iff_not, Bool.or_eq_true, Bool.or_eq_false_iff, Bool.and_eq_true, Bool.and_eq_false_imp, Bool.not_eq_true', Bool.not_eq_false'] at hc12
                  refine AW.exit ?_
                  show AW _ _ _ _ _
                  refine AW.seq ?_
                  refine AW.regR rfl (by simp (maxSteps := 1000000) only [go_sem] <;> exact rfl) (by first | (simp (disch := omega) only [go_sem, w64, wU] <;> exact rfl) | exact rfl) ?_
                  refine retK.fin rfl (by simp (maxSteps := 1000000) only [go_sem] <;> exact rfl) (by simp (maxSteps := 1000000) only [go_sem] <;> exact rfl) (.of ?_)
                  obtain rfl : op = 14 := by assumption
                  exact congrArg PV.str (by decide +kernel)
                · try simp only [decide_eq_true_eq, decide_eq_false_iff_not, Bool.or_eq_true, Bool.or_eq_false_iff, Bool.and_eq_true, Bool.and_eq_false_imp, Bool.not_eq_true', Bool.not_eq_false'] at hc12
                  refine AW.skip ?_
                  show AW _ _ _ _ _
                  refine AW.seq ?_
                  refine AW.seq ?_
                  refine AW.regR rfl (by simp (maxSteps := 1000000) only [go_sem] <;> exact rfl) (by first | (simp (disch := omega) only [go_sem, w64, wU] <;> exact rfl) | exact rfl) ?_
                  refine AW.cond (by simp (maxSteps := 1000000) only [go_sem] <;> exact rfl) (fun hc13 => ?_) (fun hc13 => ?_)
                  · try simp only [decide_eq_true_eq, decide_eq_false_iff_not, Bool.or_eq_true, Bool.or_eq_false_iff, Bool.and_eq_true, Bool.and_eq_false_imp, Bool.not_eq_true', Bool.not_eq_false'] at hc13
                    have h13 : op = 1 := hc13
                    refine AW.skip ?_
                    show AW _ _ _ _ _
                    refine AW.condT (by simp (maxSteps := 1000000) only [go_sem, h13] <;> exact rfl) ?_
                    refine AW.exit ?_
                    show AW _ _ _ _ _
                    refine AW.regR1 rfl (by simp (maxSteps := 1000000) only [go_sem, h13] <;> exact rfl) (by first | (simp (disch := omega) only [go_sem, w64, wU, h13] <;> exact rfl) | exact rfl) ?_
                    show AW _ _ _ _ _
                    refine AW.regR rfl (by simp (maxSteps := 1000000) only [go_sem, h13] <;> exact rfl) (by first | (simp (disch := omega) only [go_sem, w64, wU, h13] <;> exact rfl) | exact rfl) ?_
                    refine AW.exit ?_
                    show AW _ _ _ _ _
                    refine AW.regR rfl (by simp (maxSteps := 1000000) only [go_sem, h13] <;> exact rfl) (by first | (simp (disch := omega) only [go_sem, w64, wU, h13] <;> exact rfl) | exact rfl) ?_
                    refine retK.fin rfl (by simp (maxSteps := 1000000) only [go_sem, h13] <;> exact rfl) (by simp (maxSteps := 1000000) only [go_sem, h13] <;> exact rfl) (.of ?_)
                    obtain rfl : op = 1 := by assumption
                    exact congrArg PV.str (by decide +kernel)
                  · try simp only [decide_eq_true_eq, decide_eq_false_iff_not, Bool.or_eq_true, Bool.or_eq_false_iff, Bool.and_eq_true, Bool.and_eq_false_imp, Bool.not_eq_true', Bool.not_eq_false'] at hc13
                    refine AW.regR rfl (by simp (maxSteps := 1000000) only [go_sem] <;> exact rfl) (by first | (simp (disch := omega) only [go_sem, w64, wU] <;> exact rfl) | exact rfl) ?_
                    refine AW.cond (by simp (maxSteps := 1000000) only [go_sem] <;> exact rfl) (fun hc15 => ?_) (fun hc15 => ?_)
                    · try simp only [decide_eq_true_eq, decide_eq_false_iff_not, Bool.or_eq_true, Bool.or_eq_false_iff, Bool.and_eq_true, Bool.and_eq_false_imp, Bool.not_eq_true', Bool.not_eq_false'] at hc15
                      have h15 : op = 6 := hc15
                      refine AW.skip ?_
                      show AW _ _ _ _ _
                      refine AW.condT (by simp (maxSteps := 1000000) only [go_sem, h15] <;> exact rfl) ?_
                      refine AW.exit ?_
                      show AW _ _ _ _ _
                      refine AW.regR1 rfl (by simp (maxSteps := 1000000) only [go_sem, h15] <;> exact rfl) (by first | (simp (disch := omega) only [go_sem, w64, wU, h15] <;> exact rfl) | exact rfl) ?_
                      show AW _ _ _ _ _
                      refine AW.regR rfl (by simp (maxSteps := 1000000) only [go_sem, h15] <;> exact rfl) (by first | (simp (disch := omega) only [go_sem, w64, wU, h15] <;> exact rfl) | exact rfl) ?_
                      refine AW.exit ?_
                      show AW _ _ _ _ _
                      refine AW.regR rfl (by simp (maxSteps := 1000000) only [go_sem, h15] <;> exact rfl) (by first | (simp (disch := omega) only [go_sem, w64, wU, h15] <;> exact rfl) | exact rfl) ?_
                      refine retK.fin rfl (by simp (maxSteps := 1000000) only [go_sem, h15] <;> exact rfl) (by simp (maxSteps := 1000000) only [go_sem, h15] <;> exact rfl) (.of ?_)
                      obtain rfl : op = 6 := by assumption
                      exact congrArg PV.str (by decide +kernel)
                    · try simp only [decide_eq_true_eq, decide_eq_false_iff_not, Bool.or_eq_true, Bool.or_eq_false_iff, Bool.and_eq_true, Bool.and_eq_false_imp, Bool.not_eq_true', Bool.not_eq_false'] at hc15
                      refine AW.regR1 rfl (by simp (maxSteps := 1000000) only [go_sem] <;> exact rfl) (by first | (simp (disch := omega) only [go_sem, w64, wU] <;> exact rfl) | exact rfl) ?_
                      show AW _ _ _ _ _
                      refine AW.cond (by simp (maxSteps := 1000000) only [go_sem] <;> exact rfl) (fun hc17 => ?_) (fun hc17 => ?_)
                      · try simp only [decide_eq_true_eq, decide_eq_false_iff_not, Bool.or_eq_true, Bool.or_eq_false_iff, Bool.and_eq_true, Bool.and_eq_false_imp, Bool.not_eq_true', Bool.not_eq_false'] at hc17
                        refine AW.exit ?_
                        show AW _ _ _ _ _
                        refine AW.regR1 rfl (by simp (maxSteps := 1000000) only [go_sem] <;> exact rfl) (by first | (simp (disch := omega) only [go_sem, w64, wU] <;> exact rfl) | exact rfl) ?_
                        show AW _ _ _ _ _
                        refine AW.regR rfl (by simp (maxSteps := 1000000) only [go_sem] <;> exact rfl) (by first | (simp (disch := omega) only [go_sem, w64, wU] <;> exact rfl) | exact rfl) ?_
                        refine AW.exit ?_
                        show AW _ _ _ _ _
                        refine AW.regR rfl (by simp (maxSteps := 1000000) only [go_sem] <;> exact rfl) (by first | (simp (disch := omega) only [go_sem, w64, wU] <;> exact rfl) | exact rfl) ?_
                        refine retK.fin rfl (by simp (maxSteps := 1000000) only [go_sem] <;> exact rfl) (by simp (maxSteps := 1000000) only [go_sem] <;> exact rfl) (.of ?_)
                        obtain rfl : op = 9 := by assumption
                        exact congrArg PV.str (by decide +kernel)
                      · try simp only [decide_eq_true_eq, decide_eq_false_iff_not, Bool.or_eq_true, Bool.or_eq_false_iff, Bool.and_eq_true, Bool.and_eq_false_imp, Bool.not_eq_true', Bool.not_eq_false'] at hc17
                        refine AW.skip ?_
                        show AW _ _ _ _ _
                        refine AW.seq ?_
                        refine AW.regR rfl (by simp (maxSteps := 1000000) only [go_sem] <;> exact rfl) (by first | (simp (disch := omega) only [go_sem, w64, wU] <;> exact rfl) | exact rfl) ?_
                        refine AW.cond (by simp (maxSteps := 1000000) only [go_sem] <;> exact rfl) (fun hc18 => ?_) (fun hc18 => ?_)
                        · try simp only [decide_eq_true_eq, decide_eq_false_iff_not, Bool.or_eq_true, Bool.or_eq_false_iff, Bool.and_eq_true, Bool.and_eq_false_imp, Bool.not_eq_true', Bool.not_eq_false'] at hc18
                          have h18 : op = 5 := hc18
                          refine AW.skip ?_
                          show AW _ _ _ _ _
                          refine AW.condT (by simp (maxSteps := 1000000) only [go_sem, h18] <;> exact rfl) ?_
                          refine AW.exit ?_
                          show AW _ _ _ _ _
                          refine AW.regR rfl (by simp (maxSteps := 1000000) only [go_sem, h18] <;> exact rfl) (by first | (simp (disch := omega) only [go_sem, w64, wU, h18] <;> exact rfl) | exact rfl) ?_
                          refine AW.exit ?_
                          show AW _ _ _ _ _
                          refine AW.regR rfl (by simp (maxSteps := 1000000) only [go_sem, h18] <;> exact rfl) (by first | (simp (disch := omega) only [go_sem, w64, wU, h18] <;> exact rfl) | exact rfl) ?_
                          refine retK.fin rfl (by simp (maxSteps := 1000000) only [go_sem, h18] <;> exact rfl) (by simp (maxSteps := 1000000) only [go_sem, h18] <;> exact rfl) (.of ?_)
                          obtain rfl : op = 5 := by assumption
                          exact congrArg PV.str (by decide +kernel)
                        · try simp only [decide_eq_true_eq, decide_eq_false_iff_not, Bool.or_eq_true, Bool.or_eq_false_iff, Bool.and_eq_true, Bool.and_eq_false_imp, Bool.not_eq_true', Bool.not_eq_false'] at hc18
                          refine AW.regR1 rfl (by simp (maxSteps := 1000000) only [go_sem] <;> exact rfl) (by first | (simp (disch := omega) only [go_sem, w64, wU] <;> exact rfl) | exact rfl) ?_
                          show AW _ _ _ _ _
                          refine AW.cond (by simp (maxSteps := 1000000) only [go_sem] <;> exact rfl) (fun hc20 => ?_) (fun hc20 => ?_)
                          · try simp only [decide_eq_true_eq, decide_eq_false_iff_not, Bool.or_eq_true, Bool.or_eq_false_iff, Bool.and_eq_true, Bool.and_eq_false_imp, Bool.not_eq_true', Bool.not_eq_false'] at hc20
                            refine AW.exit ?_
                            show AW _ _ _ _ _
                            refine AW.regR rfl (by simp (maxSteps := 1000000) only [go_sem] <;> exact rfl) (by first | (simp (disch := omega) only [go_sem, w64, wU] <;> exact rfl) | exact rfl) ?_
                            refine AW.exit ?_
                            show AW _ _ _ _ _
                            refine AW.regR rfl (by simp (maxSteps := 1000000) only [go_sem] <;> exact rfl) (by first | (simp (disch := omega) only [go_sem, w64, wU] <;> exact rfl) | exact rfl) ?_
                            refine retK.fin rfl (by simp (maxSteps := 1000000) only [go_sem] <;> exact rfl) (by simp (maxSteps := 1000000) only [go_sem] <;> exact rfl) (.of ?_)
                            obtain rfl : op = 15 := by assumption
                            exact congrArg PV.str (by decide +kernel)
                          · try simp only [decide_eq_true_eq, decide_eq_false_iff_not, Bool.or_eq_true, Bool.or_eq_false_iff, Bool.and_eq_true, Bool.and_eq_false_imp, Bool.not_eq_true', Bool.not_eq_false'] at hc20
                            refine AW.skip ?_
                            show AW _ _ _ _ _
                            refine AW.exit ?_
                            show AW _ _ _ _ _
                            refine AW.regR rfl (by simp (maxSteps := 1000000) only [go_sem] <;> exact rfl) (by first | (simp (disch := omega) only [go_sem, w64, wU] <;> exact rfl) | exact rfl) ?_
                            refine retK.fin rfl (by simp (maxSteps := 1000000) only [go_sem] <;> exact rfl) (by simp (maxSteps := 1000000) only [go_sem] <;> exact rfl) (.of ?_)
                            by_cases h : op < 1 ∨ 15 < op
                            · rw [shape_out h]
                            · obtain rfl | rfl : op = 12 ∨ op = 13 := by omega
                              · exact congrArg PV.str (by decide +kernel)
                              · exact congrArg PV.str (by decide +kernel)
theorem c37 (s : ByteArray) (c : Int) (hs : s.size ≤ 4) : PC Tryd.prog 37 [.str s, .int .u8 c] (.bool (hasB s c)) := by
  refine PC.start 17 Tryd.call37 Tryd.func37 rfl Tryd.ntmps37 Tryd.results37 (by simp only [go_sem]; exact rfl) fun z hz => ?_
  refine AW.regR rfl (by simp (maxSteps := 1000000) only [go_sem] <;> exact rfl) (by first | (simp (disch := omega) only [go_sem, w64, wU] <;> exact rfl) | exact rfl) ?_
  refine AW.seq ?_
  refine AW.regR rfl (by simp (maxSteps := 1000000) only [go_sem] <;> exact rfl) (by first | (simp (disch := omega) only [go_sem, w64, wU] <;> exact rfl) | exact rfl) ?_
  refine AW.block ?_
  refine AW.loopVh (α := (Int)) (fun (i : (Int)) => [(5, .pv (.int .i64 i))]) (fun (i : (Int)) => (0 ≤ i) ∧ (i ≤ (s.size : Int)) ∧ (∀ j : Nat, (j : Int) < i → ¬ bat s j = c)) (fun (i : (Int)) => ((s.size : Int) - i).toNat) 0 ?_ ?_ ?_
  · exact ⟨by omega, by omega, fun j hj => by omega⟩
  · refine Wk.sub ?_
    simp (maxSteps := 1000000) (disch := omega) only [go_sem, w64, wU]
  · rintro i hF _ ht
    simp only [updT, go_sem] at ht
    subst ht
    obtain ⟨h1, h2, h3⟩ := hF
    refine AW.seq ?_
    refine AW.regR rfl (by simp (maxSteps := 1000000) only [go_sem] <;> exact rfl) (by first | (simp (disch := omega) only [go_sem, w64, wU] <;> exact rfl) | exact rfl) ?_
    refine AW.cond (by simp (maxSteps := 1000000) only [go_sem] <;> exact rfl) (fun hc1 => ?_) (fun hc1 => ?_)
    · try simp only [decide_eq_true_eq, decide_eq_false_iff_not, Bool.or_eq_true, Bool.or_eq_false_iff, Bool.and_eq_true, Bool.and_eq_false_imp, Bool.not_eq_true', Bool.not_eq_false'] at hc1
      have g1 : 0 ≤ i := h1
      have g2 : i < (s.size : Int) := hc1
      refine AW.skip ?_
      show AW _ _ _ _ _
      refine AW.seq ?_
      refine AW.block ?_
      refine AW.regR rfl (by simp (maxSteps := 1000000) only [go_sem, g1, g2] <;> exact rfl) (by first | (simp (disch := omega) only [go_sem, w64, wU, g1, g2] <;> exact rfl) | exact rfl) ?_
      refine AW.cond (by simp (maxSteps := 1000000) only [go_sem, g1, g2] <;> exact rfl) (fun hc2 => ?_) (fun hc2 => ?_)
      · try simp only [decide_eq_true_eq, decide_eq_false_iff_not, Bool.or_eq_true, Bool.or_eq_false_iff, Bool.and_eq_true, Bool.and_eq_false_imp, Bool.not_eq_true', Bool.not_eq_false'] at hc2
        refine AW.regR rfl (by simp (maxSteps := 1000000) only [go_sem, g1, g2] <;> exact rfl) (by first | (simp (disch := omega) only [go_sem, w64, wU, g1, g2] <;> exact rfl) | exact rfl) ?_
        refine retK.fin rfl (by simp (maxSteps := 1000000) only [go_sem, g1, g2] <;> exact rfl) (by simp (maxSteps := 1000000) only [go_sem, g1, g2] <;> exact rfl) (.of ?_)
        rw [has_yes (j := i.toNat) (by omega) hc2]
      · try simp only [decide_eq_true_eq, decide_eq_false_iff_not, Bool.or_eq_true, Bool.or_eq_false_iff, Bool.and_eq_true, Bool.and_eq_false_imp, Bool.not_eq_true', Bool.not_eq_false'] at hc2
        refine AW.skip ?_
        show AW _ _ _ _ _
        refine AW.regR1 rfl (by simp (maxSteps := 1000000) only [go_sem, g1, g2] <;> exact rfl) (by first | (simp (disch := omega) only [go_sem, w64, wU, g1, g2] <;> exact rfl) | exact rfl) ?_
        refine ⟨(i + 1), ?_, ?_, ?_⟩
        · (try dsimp only); omega
        · exact ⟨by omega, by omega, fun j hj => if e : (j : Int) < i then h3 j e else by (have hji : j = i.toNat := by omega); subst hji; exact hc2⟩
        · refine Wk.sub ?_
          simp (maxSteps := 1000000) (disch := omega) only [go_sem, w64, wU, g1, g2]
    · try simp only [decide_eq_true_eq, decide_eq_false_iff_not, Bool.or_eq_true, Bool.or_eq_false_iff, Bool.and_eq_true, Bool.and_eq_false_imp, Bool.not_eq_true', Bool.not_eq_false'] at hc1
      refine AW.exit ?_
      show AW _ _ _ _ _
      refine AW.regR rfl (by simp (maxSteps := 1000000) only [go_sem] <;> exact rfl) (by first | (simp (disch := omega) only [go_sem, w64, wU] <;> exact rfl) | exact rfl) ?_
      refine retK.fin rfl (by simp (maxSteps := 1000000) only [go_sem] <;> exact rfl) (by simp (maxSteps := 1000000) only [go_sem] <;> exact rfl) (.of ?_)
      rw [has_no (fun j hj => h3 j (by omega))]
set_option maxHeartbeats 1000000 in
theorem ib (s : ByteArray) (c : Int) (w : World) : Calls Tryd.prog 45 #[.string s, .int .u8 c] w fun e w' => e = .returned (.int .i64 (Lib.indexByte s.data.toList c.toNat.toUInt8)) ∧ w' = w := by
  go_enter Tryd.func45, Tryd.ntmps45
  go_wp2
  rw [run_callFunc_extern Tryd.func49 (by kernel_rfl) (by kernel_rfl) (by kernel_rfl) (e := Extern.BytealgIndexByte.indexByte) (by kernel_rfl), Lib.run_indexByteString]
  simp only [Result.andThen]
  rw [Oper.upon_value]
  go_wp2
  go_ret
  exact ⟨rfl, rfl⟩
theorem c45 (s : ByteArray) (c : Int) : PC Tryd.prog 45 [.str s, .int .u8 c] (.int .i64 (Lib.indexByte s.data.toList c.toNat.toUInt8)) :=
  ⟨Tryd.call45, fun ok w vs hok hG hr => by
    obtain ⟨h1, h2⟩ := hr
    match vs, h1 with
    | [v0, v1], _ =>
      have r0 := h2 0 _ v0 rfl rfl
      have r1 := h2 1 _ v1 rfl rfl
      cases r0; cases r1
      refine (ib s c w).mono fun e w' he => ?_
      obtain ⟨rfl, rfl⟩ := he
      exact ⟨⟨rfl, rfl, rfl, Nat.le_refl _, fun _ _ => rfl⟩, .int _ _⟩⟩
theorem c44 (s u : ByteArray) (hu : u.size = 1) : PC Tryd.prog 44 [.str s, .str u] (.int .i64 (idx1 s u)) := by
  refine PC.start 143 Tryd.call44 Tryd.func44 rfl Tryd.ntmps44 Tryd.results44 (by simp only [go_sem]; exact rfl) fun z hz => ?_
  refine AW.regR rfl (by simp (maxSteps := 1000000) only [go_sem, hu] <;> exact rfl) (by first | (simp (disch := omega) only [go_sem, w64, wU, hu] <;> exact rfl) | exact rfl) ?_
  refine AW.regR rfl (by simp (maxSteps := 1000000) only [go_sem, hu] <;> exact rfl) (by first | (simp (disch := omega) only [go_sem, w64, wU, hu] <;> exact rfl) | exact rfl) ?_
  refine AW.seq ?_
  refine AW.block ?_
  refine AW.regR rfl (by simp (maxSteps := 1000000) only [go_sem, hu] <;> exact rfl) (by first | (simp (disch := omega) only [go_sem, w64, wU, hu] <;> exact rfl) | exact rfl) ?_
  refine AW.cond (by simp (maxSteps := 1000000) only [go_sem, hu] <;> exact rfl) (fun hc1 => ?_) (fun hc1 => ?_)
  · try simp only [decide_eq_true_eq, decide_eq_false_iff_not, Bool.or_eq_true, Bool.or_eq_false_iff, Bool.and_eq_true, Bool.and_eq_false_imp, Bool.not_eq_true', Bool.not_eq_false'] at hc1
    refine AW.regR rfl (by simp (maxSteps := 1000000) only [go_sem, hu] <;> exact rfl) (by first | (simp (disch := omega) only [go_sem, w64, wU, hu] <;> exact rfl) | exact rfl) ?_
    refine retK.fin rfl (by simp (maxSteps := 1000000) only [go_sem, hu] <;> exact rfl) (by simp (maxSteps := 1000000) only [go_sem, hu] <;> exact rfl) (.of ?_)
    simp [idx1, hc1]
  · try simp only [decide_eq_true_eq, decide_eq_false_iff_not, Bool.or_eq_true, Bool.or_eq_false_iff, Bool.and_eq_true, Bool.and_eq_false_imp, Bool.not_eq_true', Bool.not_eq_false'] at hc1
    refine AW.regR rfl (by simp (maxSteps := 1000000) only [go_sem, hu] <;> exact rfl) (by first | (simp (disch := omega) only [go_sem, w64, wU, hu] <;> exact rfl) | exact rfl) ?_
    refine AW.condT (by simp (maxSteps := 1000000) only [go_sem, hu] <;> exact rfl) ?_
    refine AW.regS rfl ?_
    refine ARN.run1 (by simp (maxSteps := 1000000) only [go_sem, hu] <;> exact rfl) ?_
    refine ARN.pcall (fun hp => c45 s (bat u 0)) rfl (by simp (maxSteps := 1000000) only [go_sem, hu] <;> exact rfl) (by simp only [go_sem]) (by simp (maxSteps := 1000000) only [go_sem, hu] <;> exact rfl) ?_
    refine ARN.run1 (by simp (maxSteps := 1000000) only [go_sem, hu] <;> exact rfl) ?_
    refine ARN.fin (by first | (simp (disch := omega) only [go_sem, w64, wU, hu] <;> exact rfl) | exact rfl) ?_
    refine retK.fin rfl (by simp (maxSteps := 1000000) only [go_sem, hu] <;> exact rfl) (by simp (maxSteps := 1000000) only [go_sem, hu] <;> exact rfl) (.of ?_)
    simp [idx1, hc1]
theorem c43 (s u : ByteArray) (hu : u.size = 1) : PC Tryd.prog 43 [.str s, .str u] (.int .i64 (idx1 s u)) := by
  refine PC.start 8 Tryd.call43 Tryd.func43 rfl Tryd.ntmps43 Tryd.results43 (by simp only [go_sem]; exact rfl) fun z hz => ?_
  refine AW.regR rfl (by simp (maxSteps := 1000000) only [go_sem] <;> exact rfl) (by first | (simp (disch := omega) only [go_sem, w64, wU] <;> exact rfl) | exact rfl) ?_
  refine AW.regS rfl ?_
  refine ARN.run1 (by simp (maxSteps := 1000000) only [go_sem] <;> exact rfl) ?_
  refine ARN.pcall (fun hp => c44 s u hu) rfl (by simp (maxSteps := 1000000) only [go_sem] <;> exact rfl) (by simp only [go_sem]) (by simp (maxSteps := 1000000) only [go_sem] <;> exact rfl) ?_
  refine ARN.run1 (by simp (maxSteps := 1000000) only [go_sem] <;> exact rfl) ?_
  refine ARN.fin (by first | (simp (disch := omega) only [go_sem, w64, wU] <;> exact rfl) | exact rfl) ?_
  refine retK.fin rfl (by simp (maxSteps := 1000000) only [go_sem] <;> exact rfl) (by simp (maxSteps := 1000000) only [go_sem] <;> exact rfl) (.of ?_)
  rfl
theorem c42 (s u : ByteArray) (hu : u.size = 1) : PC Tryd.prog 42 [.str s, .str u] (.bool (decide (0 ≤ idx1 s u))) := by
  refine PC.start 9 Tryd.call42 Tryd.func42 rfl Tryd.ntmps42 Tryd.results42 (by simp only [go_sem]; exact rfl) fun z hz => ?_
  refine AW.regR rfl (by simp (maxSteps := 1000000) only [go_sem] <;> exact rfl) (by first | (simp (disch := omega) only [go_sem, w64, wU] <;> exact rfl) | exact rfl) ?_
  refine AW.regS rfl ?_
  refine ARN.run1 (by simp (maxSteps := 1000000) only [go_sem] <;> exact rfl) ?_
  refine ARN.pcall (fun hp => c43 s u hu) rfl (by simp (maxSteps := 1000000) only [go_sem] <;> exact rfl) (by simp only [go_sem]) (by simp (maxSteps := 1000000) only [go_sem] <;> exact rfl) ?_
  refine ARN.run1 (by simp (maxSteps := 1000000) only [go_sem] <;> exact rfl) ?_
  refine ARN.fin (by first | (simp (disch := omega) only [go_sem, w64, wU] <;> exact rfl) | exact rfl) ?_
  refine retK.fin rfl (by simp (maxSteps := 1000000) only [go_sem] <;> exact rfl) (by simp (maxSteps := 1000000) only [go_sem] <;> exact rfl) (.of ?_)
  rfl
theorem c39 (op a b c m : Int) : PC Tryd.prog 39 [.agg [.int .i64 op, .int .i64 a, .int .i64 b, .int .i64 c, .int .u64 m]] (.int .i64 (fieldsE op a b c m)) := by
  refine PC.start 55 Tryd.call39 Tryd.func39 rfl Tryd.ntmps39 Tryd.results39 (by simp only [go_sem]; exact rfl) fun z hz => ?_
  refine AW.regR rfl (by simp (maxSteps := 1000000) only [go_sem] <;> exact rfl) (by first | (simp (disch := omega) only [go_sem, w64, wU] <;> exact rfl) | exact rfl) ?_
  refine AW.seq ?_
  refine AW.regS rfl ?_
  refine ARN.run1 (by simp (maxSteps := 1000000) only [go_sem] <;> exact rfl) ?_
  refine ARN.pcall (fun hp => c40 _) rfl (by simp (maxSteps := 1000000) only [go_sem] <;> exact rfl) (by simp only [go_sem]) (by simp (maxSteps := 1000000) only [go_sem] <;> exact rfl) ?_
  refine ARN.run1 (by simp (maxSteps := 1000000) only [go_sem] <;> exact rfl) ?_
  refine ARN.fin (by first | (simp (disch := omega) only [go_sem, w64, wU] <;> exact rfl) | exact rfl) ?_
  refine AW.cond (by simp (maxSteps := 1000000) only [go_sem] <;> exact rfl) (fun hc1 => ?_) (fun hc1 => ?_)
  · try simp only [decide_eq_true_eq, decide_eq_false_iff_not, Bool.or_eq_true, Bool.or_eq_false_iff, Bool.and_eq_true, Bool.and_eq_false_imp, Bool.not_eq_true', Bool.not_eq_false'] at hc1
    refine AW.regR rfl (by simp (maxSteps := 1000000) only [go_sem] <;> exact rfl) (by first | (simp (disch := omega) only [go_sem, w64, wU] <;> exact rfl) | exact rfl) ?_
    refine retK.fin rfl (by simp (maxSteps := 1000000) only [go_sem] <;> exact rfl) (by simp (maxSteps := 1000000) only [go_sem] <;> exact rfl) (.of ?_)
    exact congrArg (PV.int .i64) (fields_3 (Classical.byContradiction fun hn => name_in (by omega) (by omega) hc1))
  · try simp only [decide_eq_true_eq, decide_eq_false_iff_not, Bool.or_eq_true, Bool.or_eq_false_iff, Bool.and_eq_true, Bool.and_eq_false_imp, Bool.not_eq_true', Bool.not_eq_false'] at hc1
    refine AW.skip ?_
    show AW _ _ _ _ _
    have hop : 1 ≤ op ∧ op ≤ 15 := Classical.byContradiction fun hn => hc1 (name_out (by omega))
    have k65 : decide (0 ≤ idx1 (shapeS op) ⟨#[65]⟩) = hasB (shapeS op) 65 := (idx_has hop.1 hop.2).1
    have k66 : decide (0 ≤ idx1 (shapeS op) ⟨#[66]⟩) = hasB (shapeS op) 66 := (idx_has hop.1 hop.2).2.1
    have k67 : decide (0 ≤ idx1 (shapeS op) ⟨#[67]⟩) = hasB (shapeS op) 67 := (idx_has hop.1 hop.2).2.2.1
    have k73 : decide (0 ≤ idx1 (shapeS op) ⟨#[73]⟩) = hasB (shapeS op) 73 := (idx_has hop.1 hop.2).2.2.2
    refine AW.regS rfl ?_
    refine ARN.run1 (by simp (maxSteps := 1000000) only [go_sem, k65, k66, k67, k73] <;> exact rfl) ?_
    refine ARN.pcall (fun hp => c41 _) rfl (by simp (maxSteps := 1000000) only [go_sem, k65, k66, k67, k73] <;> exact rfl) (by simp only [go_sem]) (by simp (maxSteps := 1000000) only [go_sem, k65, k66, k67, k73] <;> exact rfl) ?_
    refine ARN.run1 (by simp (maxSteps := 1000000) only [go_sem, k65, k66, k67, k73] <;> exact rfl) ?_
    refine ARN.fin (by first | (simp (disch := omega) only [go_sem, w64, wU, k65, k66, k67, k73] <;> exact rfl) | exact rfl) ?_
    refine AW.regR rfl (by simp (maxSteps := 1000000) only [go_sem, k65, k66, k67, k73] <;> exact rfl) (by first | (simp (disch := omega) only [go_sem, w64, wU, k65, k66, k67, k73] <;> exact rfl) | exact rfl) ?_
    refine AW.seq ?_
    refine AW.regR rfl (by simp (maxSteps := 1000000) only [go_sem, k65, k66, k67, k73] <;> exact rfl) (by first | (simp (disch := omega) only [go_sem, w64, wU, k65, k66, k67, k73] <;> exact rfl) | exact rfl) ?_
    refine AW.block ?_
    refine AW.rounds 4 ?_
    refine ARounds.mk ?_
    refine AW.regR rfl (by simp (maxSteps := 1000000) only [go_sem, k65, k66, k67, k73] <;> exact rfl) (by first | (simp (disch := omega) only [go_sem, w64, wU, k65, k66, k67, k73] <;> exact rfl) | exact rfl) ?_
    refine AW.seq ?_
    refine AW.condT (by simp (maxSteps := 1000000) only [go_sem, k65, k66, k67, k73] <;> exact rfl) ?_
    refine AW.skip ?_
    show AW _ _ _ _ _
    refine AW.joinVh (α := (Int)) (fun (bd1 : (Int)) => [(4, .pv (.int .i64 bd1))]) (fun (bd1 : (Int)) => ((hasB (shapeS op) 65 = true ∨ a = 0)) ∧ (bd1 = (if hasB (shapeS op) 65 = true ∧ (a < 0 ∨ 7 < a) then 14 else 0))) ?_ ?_
    · skip
      refine AW.block ?_
      refine AW.regR rfl (by simp (maxSteps := 1000000) only [go_sem, k65, k66, k67, k73] <;> exact rfl) (by first | (simp (disch := omega) only [go_sem, w64, wU, k65, k66, k67, k73] <;> exact rfl) | exact rfl) ?_
      refine AW.block ?_
      refine AW.regS rfl ?_
      refine ARN.run1 (by simp (maxSteps := 1000000) only [go_sem, k65, k66, k67, k73] <;> exact rfl) ?_
      refine ARN.pcall (fun hp => c42 (shapeS op) ⟨#[65]⟩ rfl) rfl (by simp (maxSteps := 1000000) only [go_sem, k65, k66, k67, k73] <;> exact rfl) (by simp only [go_sem]) (by simp (maxSteps := 1000000) only [go_sem, k65, k66, k67, k73] <;> exact rfl) ?_
      refine ARN.run1 (by simp (maxSteps := 1000000) only [go_sem, k65, k66, k67, k73] <;> exact rfl) ?_
      refine ARN.fin (by first | (simp (disch := omega) only [go_sem, w64, wU, k65, k66, k67, k73] <;> exact rfl) | exact rfl) ?_
      refine AW.cond (by simp (maxSteps := 1000000) only [go_sem, k65, k66, k67, k73] <;> exact rfl) (fun hc2 => ?_) (fun hc2 => ?_)
      · try simp only [decide_eq_true_eq, decide_eq_false_iff_not, Bool.or_eq_true, Bool.or_eq_false_iff, Bool.and_eq_true, Bool.and_eq_false_imp, Bool.not_eq_true', Bool.not_eq_false'] at hc2
        refine AW.regR rfl (by simp (maxSteps := 1000000) only [go_sem, k65, k66, k67, k73] <;> exact rfl) (by first | (simp (disch := omega) only [go_sem, w64, wU, k65, k66, k67, k73] <;> exact rfl) | exact rfl) ?_
        refine AW.cond (by simp (maxSteps := 1000000) only [go_sem, k65, k66, k67, k73] <;> exact rfl) (fun hc3 => ?_) (fun hc3 => ?_)
        · try simp only [decide_eq_true_eq, decide_eq_false_iff_not, Bool.or_eq_true, Bool.or_eq_false_iff, Bool.and_eq_true, Bool.and_eq_false_imp, Bool.not_eq_true', Bool.not_eq_false'] at hc3
          refine AW.regR rfl (by simp (maxSteps := 1000000) only [go_sem, k65, k66, k67, k73] <;> exact rfl) (by first | (simp (disch := omega) only [go_sem, w64, wU, k65, k66, k67, k73] <;> exact rfl) | exact rfl) ?_
          refine retK.fin rfl (by simp (maxSteps := 1000000) only [go_sem, k65, k66, k67, k73] <;> exact rfl) (by simp (maxSteps := 1000000) only [go_sem, k65, k66, k67, k73] <;> exact rfl) (.of ?_)
          exact congrArg (PV.int .i64) (fields_5 hop.1 hop.2 (.inl ⟨hc2, hc3⟩))
        · try simp only [decide_eq_true_eq, decide_eq_false_iff_not, Bool.or_eq_true, Bool.or_eq_false_iff, Bool.and_eq_true, Bool.and_eq_false_imp, Bool.not_eq_true', Bool.not_eq_false'] at hc3
          refine AW.skip ?_
          refine ⟨0, ?_, ?_⟩
          · exact ⟨.inr hc3, by rw [if_neg (by simp [hc2])]⟩
          · refine Wk.to [] [0] hz (by decide) ?_ ?_
            · simp (maxSteps := 1000000) (disch := omega) only [go_sem, w64, wU, k65, k66, k67, k73]
            · simp (maxSteps := 1000000) (disch := omega) only [go_sem, w64, wU, k65, k66, k67, k73]
      · try simp only [decide_eq_true_eq, decide_eq_false_iff_not, Bool.or_eq_true, Bool.or_eq_false_iff, Bool.and_eq_true, Bool.and_eq_false_imp, Bool.not_eq_true', Bool.not_eq_false'] at hc2
        refine AW.regR rfl (by simp (maxSteps := 1000000) only [go_sem, k65, k66, k67, k73] <;> exact rfl) (by first | (simp (disch := omega) only [go_sem, w64, wU, k65, k66, k67, k73] <;> exact rfl) | exact rfl) ?_
        refine AW.cond (by simp (maxSteps := 1000000) only [go_sem, k65, k66, k67, k73] <;> exact rfl) (fun hc4 => ?_) (fun hc4 => ?_)
        · try simp only [decide_eq_true_eq, decide_eq_false_iff_not, Bool.or_eq_true, Bool.or_eq_false_iff, Bool.and_eq_true, Bool.and_eq_false_imp, Bool.not_eq_true', Bool.not_eq_false'] at hc4
          refine AW.regR1 rfl (by simp (maxSteps := 1000000) only [go_sem, k65, k66, k67, k73] <;> exact rfl) (by first | (simp (disch := omega) only [go_sem, w64, wU, k65, k66, k67, k73] <;> exact rfl) | exact rfl) ?_
          refine ⟨14, ?_, ?_⟩
          · exact ⟨.inl hc2, by rw [if_pos ⟨hc2, by omega⟩]⟩
          · refine Wk.to [] [0] hz (by decide) ?_ ?_
            · simp (maxSteps := 1000000) (disch := omega) only [go_sem, w64, wU, k65, k66, k67, k73]
            · simp (maxSteps := 1000000) (disch := omega) only [go_sem, w64, wU, k65, k66, k67, k73]
        · try simp only [decide_eq_true_eq, decide_eq_false_iff_not, Bool.or_eq_true, Bool.or_eq_false_iff, Bool.and_eq_true, Bool.and_eq_false_imp, Bool.not_eq_true', Bool.not_eq_false'] at hc4
          refine AW.skip ?_
          refine ⟨0, ?_, ?_⟩
          · exact ⟨.inl hc2, by rw [if_neg (by omega)]⟩
          · refine Wk.to [] [0] hz (by decide) ?_ ?_
            · simp (maxSteps := 1000000) (disch := omega) only [go_sem, w64, wU, k65, k66, k67, k73]
            · simp (maxSteps := 1000000) (disch := omega) only [go_sem, w64, wU, k65, k66, k67, k73]
    · rintro bd1 hF _ ht
      simp only [updT, go_sem] at ht
      subst ht
      obtain ⟨k1, q1⟩ := hF
      refine AW.regR1 rfl (by simp (maxSteps := 1000000) only [go_sem, k65, k66, k67, k73] <;> exact rfl) (by first | (simp (disch := omega) only [go_sem, w64, wU, k65, k66, k67, k73] <;> exact rfl) | exact rfl) ?_
      show ARounds _ _ _ _ _ _
      refine ARounds.mk ?_
      refine AW.regR rfl (by simp (maxSteps := 1000000) only [go_sem, k65, k66, k67, k73] <;> exact rfl) (by first | (simp (disch := omega) only [go_sem, w64, wU, k65, k66, k67, k73] <;> exact rfl) | exact rfl) ?_
      refine AW.seq ?_
      refine AW.condT (by simp (maxSteps := 1000000) only [go_sem, k65, k66, k67, k73] <;> exact rfl) ?_
      refine AW.skip ?_
      show AW _ _ _ _ _
      refine AW.joinVh (α := (Int)) (fun (bd2 : (Int)) => [(4, .pv (.int .i64 bd2))]) (fun (bd2 : (Int)) => ((hasB (shapeS op) 66 = true ∨ b = 0)) ∧ (bd2 = (if hasB (shapeS op) 66 = true ∧ (b < 0 ∨ 7 < b) then 14 else bd1))) ?_ ?_
      · skip
        refine AW.block ?_
        refine AW.regR rfl (by simp (maxSteps := 1000000) only [go_sem, k65, k66, k67, k73] <;> exact rfl) (by first | (simp (disch := omega) only [go_sem, w64, wU, k65, k66, k67, k73] <;> exact rfl) | exact rfl) ?_
        refine AW.block ?_
        refine AW.regS rfl ?_
        refine ARN.run1 (by simp (maxSteps := 1000000) only [go_sem, k65, k66, k67, k73] <;> exact rfl) ?_
        refine ARN.pcall (fun hp => c42 (shapeS op) ⟨#[66]⟩ rfl) rfl (by simp (maxSteps := 1000000) only [go_sem, k65, k66, k67, k73] <;> exact rfl) (by simp only [go_sem]) (by simp (maxSteps := 1000000) only [go_sem, k65, k66, k67, k73] <;> exact rfl) ?_
        refine ARN.run1 (by simp (maxSteps := 1000000) only [go_sem, k65, k66, k67, k73] <;> exact rfl) ?_
        refine ARN.fin (by first | (simp (disch := omega) only [go_sem, w64, wU, k65, k66, k67, k73] <;> exact rfl) | exact rfl) ?_
        refine AW.cond (by simp (maxSteps := 1000000) only [go_sem, k65, k66, k67, k73] <;> exact rfl) (fun hc5 => ?_) (fun hc5 => ?_)
        · try simp only [decide_eq_true_eq, decide_eq_false_iff_not, Bool.or_eq_true, Bool.or_eq_false_iff, Bool.and_eq_true, Bool.and_eq_false_imp, Bool.not_eq_true', Bool.not_eq_false'] at hc5
          refine AW.regR rfl (by simp (maxSteps := 1000000) only [go_sem, k65, k66, k67, k73] <;> exact rfl) (by first | (simp (disch := omega) only [go_sem, w64, wU, k65, k66, k67, k73] <;> exact rfl) | exact rfl) ?_
          refine AW.cond (by simp (maxSteps := 1000000) only [go_sem, k65, k66, k67, k73] <;> exact rfl) (fun hc6 => ?_) (fun hc6 => ?_)
          · try simp only [decide_eq_true_eq, decide_eq_false_iff_not, Bool.or_eq_true, Bool.or_eq_false_iff, Bool.and_eq_true, Bool.and_eq_false_imp, Bool.not_eq_true', Bool.not_eq_false'] at hc6
            refine AW.regR rfl (by simp (maxSteps := 1000000) only [go_sem, k65, k66, k67, k73] <;> exact rfl) (by first | (simp (disch := omega) only [go_sem, w64, wU, k65, k66, k67, k73] <;> exact rfl) | exact rfl) ?_
            refine retK.fin rfl (by simp (maxSteps := 1000000) only [go_sem, k65, k66, k67, k73] <;> exact rfl) (by simp (maxSteps := 1000000) only [go_sem, k65, k66, k67, k73] <;> exact rfl) (.of ?_)
            exact congrArg (PV.int .i64) (fields_5 hop.1 hop.2 (.inr (.inl ⟨hc5, hc6⟩)))
          · try simp only [decide_eq_true_eq, decide_eq_false_iff_not, Bool.or_eq_true, Bool.or_eq_false_iff, Bool.and_eq_true, Bool.and_eq_false_imp, Bool.not_eq_true', Bool.not_eq_false'] at hc6
            refine AW.skip ?_
            refine ⟨bd1, ?_, ?_⟩
            · exact ⟨.inr hc6, by rw [if_neg (by simp [hc5])]⟩
            · refine Wk.to [] [0] hz (by decide) ?_ ?_
              · simp (maxSteps := 1000000) (disch := omega) only [go_sem, w64, wU, k65, k66, k67, k73]
              · simp (maxSteps := 1000000) (disch := omega) only [go_sem, w64, wU, k65, k66, k67, k73]
        · try simp only [decide_eq_true_eq, decide_eq_false_iff_not, Bool.or_eq_true, Bool.or_eq_false_iff, Bool.and_eq_true, Bool.and_eq_false_imp, Bool.not_eq_true', Bool.not_eq_false'] at hc5
          refine AW.regR rfl (by simp (maxSteps := 1000000) only [go_sem, k65, k66, k67, k73] <;> exact rfl) (by first | (simp (disch := omega) only [go_sem, w64, wU, k65, k66, k67, k73] <;> exact rfl) | exact rfl) ?_
          refine AW.cond (by simp (maxSteps := 1000000) only [go_sem, k65, k66, k67, k73] <;> exact rfl) (fun hc7 => ?_) (fun hc7 => ?_)
          · try simp only [decide_eq_true_eq, decide_eq_false_iff_not, Bool.or_eq_true, Bool.or_eq_false_iff, Bool.and_eq_true, Bool.and_eq_false_imp, Bool.not_eq_true', Bool.not_eq_false'] at hc7
            refine AW.regR1 rfl (by simp (maxSteps := 1000000) only [go_sem, k65, k66, k67, k73] <;> exact rfl) (by first | (simp (disch := omega) only [go_sem, w64, wU, k65, k66, k67, k73] <;> exact rfl) | exact rfl) ?_
            refine ⟨14, ?_, ?_⟩
            · exact ⟨.inl hc5, by rw [if_pos ⟨hc5, by omega⟩]⟩
            · refine Wk.to [] [0] hz (by decide) ?_ ?_
              · simp (maxSteps := 1000000) (disch := omega) only [go_sem, w64, wU, k65, k66, k67, k73]
              · simp (maxSteps := 1000000) (disch := omega) only [go_sem, w64, wU, k65, k66, k67, k73]
          · try simp only [decide_eq_true_eq, decide_eq_false_iff_not, Bool.or_eq_true, Bool.or_eq_false_iff, Bool.and_eq_true, Bool.and_eq_false_imp, Bool.not_eq_true', Bool.not_eq_false'] at hc7
            refine AW.skip ?_
            refine ⟨bd1, ?_, ?_⟩
            · exact ⟨.inl hc5, by rw [if_neg (by omega)]⟩
            · refine Wk.to [] [0] hz (by decide) ?_ ?_
              · simp (maxSteps := 1000000) (disch := omega) only [go_sem, w64, wU, k65, k66, k67, k73]
              · simp (maxSteps := 1000000) (disch := omega) only [go_sem, w64, wU, k65, k66, k67, k73]
      · rintro bd2 hF _ ht
        simp only [updT, go_sem] at ht
        subst ht
        obtain ⟨k2, q2⟩ := hF
        refine AW.regR1 rfl (by simp (maxSteps := 1000000) only [go_sem, k65, k66, k67, k73] <;> exact rfl) (by first | (simp (disch := omega) only [go_sem, w64, wU, k65, k66, k67, k73] <;> exact rfl) | exact rfl) ?_
        show ARounds _ _ _ _ _ _
        refine ARounds.mk ?_
        refine AW.regR rfl (by simp (maxSteps := 1000000) only [go_sem, k65, k66, k67, k73] <;> exact rfl) (by first | (simp (disch := omega) only [go_sem, w64, wU, k65, k66, k67, k73] <;> exact rfl) | exact rfl) ?_
        refine AW.seq ?_
        refine AW.condT (by simp (maxSteps := 1000000) only [go_sem, k65, k66, k67, k73] <;> exact rfl) ?_
        refine AW.skip ?_
        show AW _ _ _ _ _
        refine AW.joinVh (α := (Int)) (fun (bd3 : (Int)) => [(4, .pv (.int .i64 bd3))]) (fun (bd3 : (Int)) => ((hasB (shapeS op) 67 = true ∨ c = 0)) ∧ (bd3 = (if hasB (shapeS op) 67 = true ∧ (c < 0 ∨ 7 < c) then 14 else bd2))) ?_ ?_
        · skip
          refine AW.block ?_
          refine AW.regR rfl (by simp (maxSteps := 1000000) only [go_sem, k65, k66, k67, k73] <;> exact rfl) (by first | (simp (disch := omega) only [go_sem, w64, wU, k65, k66, k67, k73] <;> exact rfl) | exact rfl) ?_
          refine AW.block ?_
          refine AW.regS rfl ?_
          refine ARN.run1 (by simp (maxSteps := 1000000) only [go_sem, k65, k66, k67, k73] <;> exact rfl) ?_
          refine ARN.pcall (fun hp => c42 (shapeS op) ⟨#[67]⟩ rfl) rfl (by simp (maxSteps := 1000000) only [go_sem, k65, k66, k67, k73] <;> exact rfl) (by simp only [go_sem]) (by simp (maxSteps := 1000000) only [go_sem, k65, k66, k67, k73] <;> exact rfl) ?_
          refine ARN.run1 (by simp (maxSteps := 1000000) only [go_sem, k65, k66, k67, k73] <;> exact rfl) ?_
          refine ARN.fin (by first | (simp (disch := omega) only [go_sem, w64, wU, k65, k66, k67, k73] <;> exact rfl) | exact rfl) ?_
          refine AW.cond (by simp (maxSteps := 1000000) only [go_sem, k65, k66, k67, k73] <;> exact rfl) (fun hc8 => ?_) (fun hc8 => ?_)
          · try simp only [decide_eq_true_eq, decide_eq_false_iff_not, Bool.or_eq_true, Bool.or_eq_false_iff, Bool.and_eq_true, Bool.and_eq_false_imp, Bool.not_eq_true', Bool.not_eq_false'] at hc8
            refine AW.regR rfl (by simp (maxSteps := 1000000) only [go_sem, k65, k66, k67, k73] <;> exact rfl) (by first | (simp (disch := omega) only [go_sem, w64, wU, k65, k66, k67, k73] <;> exact rfl) | exact rfl) ?_
            refine AW.cond (by simp (maxSteps := 1000000) only [go_sem, k65, k66, k67, k73] <;> exact rfl) (fun hc9 => ?_) (fun hc9 => ?_)
            · try simp only [decide_eq_true_eq, decide_eq_false_iff_not, Bool.or_eq_true, Bool.or_eq_false_iff, Bool.and_eq_true, Bool.and_eq_false_imp, Bool.not_eq_true', Bool.not_eq_false'] at hc9
              refine AW.regR rfl (by simp (maxSteps := 1000000) only [go_sem, k65, k66, k67, k73] <;> exact rfl) (by first | (simp (disch := omega) only [go_sem, w64, wU, k65, k66, k67, k73] <;> exact rfl) | exact rfl) ?_
              refine retK.fin rfl (by simp (maxSteps := 1000000) only [go_sem, k65, k66, k67, k73] <;> exact rfl) (by simp (maxSteps := 1000000) only [go_sem, k65, k66, k67, k73] <;> exact rfl) (.of ?_)
              exact congrArg (PV.int .i64) (fields_5 hop.1 hop.2 (.inr (.inr (.inl ⟨hc8, hc9⟩))))
            · try simp only [decide_eq_true_eq, decide_eq_false_iff_not, Bool.or_eq_true, Bool.or_eq_false_iff, Bool.and_eq_true, Bool.and_eq_false_imp, Bool.not_eq_true', Bool.not_eq_false'] at hc9
              refine AW.skip ?_
              refine ⟨bd2, ?_, ?_⟩
              · exact ⟨.inr hc9, by rw [if_neg (by simp [hc8])]⟩
              · refine Wk.to [] [0] hz (by decide) ?_ ?_
                · simp (maxSteps := 1000000) (disch := omega) only [go_sem, w64, wU, k65, k66, k67, k73]
                · simp (maxSteps := 1000000) (disch := omega) only [go_sem, w64, wU, k65, k66, k67, k73]
          · try simp only [decide_eq_true_eq, decide_eq_false_iff_not, Bool.or_eq_true, Bool.or_eq_false_iff, Bool.and_eq_true, Bool.and_eq_false_imp, Bool.not_eq_true', Bool.not_eq_false'] at hc8
            refine AW.regR rfl (by simp (maxSteps := 1000000) only [go_sem, k65, k66, k67, k73] <;> exact rfl) (by first | (simp (disch := omega) only [go_sem, w64, wU, k65, k66, k67, k73] <;> exact rfl) | exact rfl) ?_
            refine AW.cond (by simp (maxSteps := 1000000) only [go_sem, k65, k66, k67, k73] <;> exact rfl) (fun hc10 => ?_) (fun hc10 => ?_)
            · try simp only [decide_eq_true_eq, decide_eq_false_iff_not, Bool.or_eq_true, Bool.or_eq_false_iff, Bool.and_eq_true, Bool.and_eq_false_imp, Bool.not_eq_true', Bool.not_eq_false'] at hc10
              refine AW.regR1 rfl (by simp (maxSteps := 1000000) only [go_sem, k65, k66, k67, k73] <;> exact rfl) (by first | (simp (disch := omega) only [go_sem, w64, wU, k65, k66, k67, k73] <;> exact rfl) | exact rfl) ?_
              refine ⟨14, ?_, ?_⟩
              · exact ⟨.inl hc8, by rw [if_pos ⟨hc8, by omega⟩]⟩
              · refine Wk.to [] [0] hz (by decide) ?_ ?_
                · simp (maxSteps := 1000000) (disch := omega) only [go_sem, w64, wU, k65, k66, k67, k73]
                · simp (maxSteps := 1000000) (disch := omega) only [go_sem, w64, wU, k65, k66, k67, k73]
            · try simp only [decide_eq_true_eq, decide_eq_false_iff_not, Bool.or_eq_true, Bool.or_eq_false_iff, Bool.and_eq_true, Bool.and_eq_false_imp, Bool.not_eq_true', Bool.not_eq_false'] at hc10
              refine AW.skip ?_
              refine ⟨bd2, ?_, ?_⟩
              · exact ⟨.inl hc8, by rw [if_neg (by omega)]⟩
              · refine Wk.to [] [0] hz (by decide) ?_ ?_
                · simp (maxSteps := 1000000) (disch := omega) only [go_sem, w64, wU, k65, k66, k67, k73]
                · simp (maxSteps := 1000000) (disch := omega) only [go_sem, w64, wU, k65, k66, k67, k73]
        · rintro bd3 hF _ ht
          simp only [updT, go_sem] at ht
          subst ht
          obtain ⟨k3, q3⟩ := hF
          refine AW.regR1 rfl (by simp (maxSteps := 1000000) only [go_sem, k65, k66, k67, k73] <;> exact rfl) (by first | (simp (disch := omega) only [go_sem, w64, wU, k65, k66, k67, k73] <;> exact rfl) | exact rfl) ?_
          show ARounds _ _ _ _ _ _
          refine ARounds.mk ?_
          refine AW.regR rfl (by simp (maxSteps := 1000000) only [go_sem, k65, k66, k67, k73] <;> exact rfl) (by first | (simp (disch := omega) only [go_sem, w64, wU, k65, k66, k67, k73] <;> exact rfl) | exact rfl) ?_
          refine AW.seq ?_
          refine AW.condF (by simp (maxSteps := 1000000) only [go_sem, k65, k66, k67, k73] <;> exact rfl) ?_
          refine AW.exit ?_
          show AW _ _ _ _ _
          refine AW.seq ?_
          refine AW.regS rfl ?_
          refine ARN.run1 (by simp (maxSteps := 1000000) only [go_sem, k65, k66, k67, k73] <;> exact rfl) ?_
          refine ARN.pcall (fun hp => c42 (shapeS op) ⟨#[73]⟩ rfl) rfl (by simp (maxSteps := 1000000) only [go_sem, k65, k66, k67, k73] <;> exact rfl) (by simp only [go_sem]) (by simp (maxSteps := 1000000) only [go_sem, k65, k66, k67, k73] <;> exact rfl) ?_
          refine ARN.run1 (by simp (maxSteps := 1000000) only [go_sem, k65, k66, k67, k73] <;> exact rfl) ?_
          refine ARN.fin (by first | (simp (disch := omega) only [go_sem, w64, wU, k65, k66, k67, k73] <;> exact rfl) | exact rfl) ?_
          refine AW.cond (by simp (maxSteps := 1000000) only [go_sem, k65, k66, k67, k73] <;> exact rfl) (fun hc11 => ?_) (fun hc11 => ?_)
          · try simp only [decide_eq_true_eq, decide_eq_false_iff_not, Bool.or_eq_true, Bool.or_eq_false_iff, Bool.and_eq_true, Bool.and_eq_false_imp, Bool.not_eq_true', Bool.not_eq_false'] at hc11
            refine AW.regR rfl (by simp (maxSteps := 1000000) only [go_sem, k65, k66, k67, k73] <;> exact rfl) (by first | (simp (disch := omega) only [go_sem, w64, wU, k65, k66, k67, k73] <;> exact rfl) | exact rfl) ?_
            refine retK.fin rfl (by simp (maxSteps := 1000000) only [go_sem, k65, k66, k67, k73] <;> exact rfl) (by simp (maxSteps := 1000000) only [go_sem, k65, k66, k67, k73] <;> exact rfl) (.of ?_)
            exact congrArg (PV.int .i64) (fields_5 hop.1 hop.2 (.inr (.inr (.inr hc11))))
          · try simp only [decide_eq_true_eq, decide_eq_false_iff_not, Bool.or_eq_true, Bool.or_eq_false_iff, Bool.and_eq_true, Bool.and_eq_false_imp, Bool.not_eq_true', Bool.not_eq_false'] at hc11
            refine AW.skip ?_
            show AW _ _ _ _ _
            refine AW.regR rfl (by simp (maxSteps := 1000000) only [go_sem, k65, k66, k67, k73] <;> exact rfl) (by first | (simp (disch := omega) only [go_sem, w64, wU, k65, k66, k67, k73] <;> exact rfl) | exact rfl) ?_
            refine retK.fin rfl (by simp (maxSteps := 1000000) only [go_sem, k65, k66, k67, k73] <;> exact rfl) (by simp (maxSteps := 1000000) only [go_sem, k65, k66, k67, k73] <;> exact rfl) (.of ?_)
            exact congrArg (PV.int .i64) (fields_end hop.1 hop.2 k1 k2 k3 (fun hh => by simp [hh.1] at hc11; exact hh.2 hc11) q1 q2 q3)
theorem c28 (op a b c m : Int) : PC Tryd.prog 28 [.agg [.int .i64 op, .int .i64 a, .int .i64 b, .int .i64 c, .int .u64 m]] (.int .i64 (fieldsE op a b c m)) := by
  refine PC.start 70 Tryd.call28 Tryd.func28 rfl Tryd.ntmps28 Tryd.results28 (by simp only [go_sem]; exact rfl) fun z hz => ?_
  refine AW.regR rfl (by simp (maxSteps := 1000000) only [go_sem] <;> exact rfl) (by first | (simp (disch := omega) only [go_sem, w64, wU] <;> exact rfl) | exact rfl) ?_
  refine AW.seq ?_
  refine AW.regR rfl (by simp (maxSteps := 1000000) only [go_sem] <;> exact rfl) (by first | (simp (disch := omega) only [go_sem, w64, wU] <;> exact rfl) | exact rfl) ?_
  refine AW.cond (by simp (maxSteps := 1000000) only [go_sem] <;> exact rfl) (fun hc1 => ?_) (fun hc1 => ?_)
  · try simp only [decide_eq_true_eq, decide_eq_false_iff_not, Bool.or_eq_true, Bool.or_eq_false_iff, Bool.and_eq_true, Bool.and_eq_false_imp, Bool.not_eq_true', Bool.not_eq_false'] at hc1
    refine AW.regR rfl (by simp (maxSteps := 1000000) only [go_sem] <;> exact rfl) (by first | (simp (disch := omega) only [go_sem, w64, wU] <;> exact rfl) | exact rfl) ?_
    refine retK.fin rfl (by simp (maxSteps := 1000000) only [go_sem] <;> exact rfl) (by simp (maxSteps := 1000000) only [go_sem] <;> exact rfl) (.of ?_)
    exact congrArg (PV.int .i64) (fields_3 (by omega))
  · try simp only [decide_eq_true_eq, decide_eq_false_iff_not, Bool.or_eq_true, Bool.or_eq_false_iff, Bool.and_eq_true, Bool.and_eq_false_imp, Bool.not_eq_true', Bool.not_eq_false'] at hc1
    refine AW.skip ?_
    show AW _ _ _ _ _
    refine AW.regS rfl ?_
    refine ARN.run1 (by simp (maxSteps := 1000000) only [go_sem] <;> exact rfl) ?_
    refine ARN.pcall (fun hp => c36 _) rfl (by simp (maxSteps := 1000000) only [go_sem] <;> exact rfl) (by simp only [go_sem]) (by simp (maxSteps := 1000000) only [go_sem] <;> exact rfl) ?_
    refine ARN.run1 (by simp (maxSteps := 1000000) only [go_sem] <;> exact rfl) ?_
    refine ARN.fin (by first | (simp (disch := omega) only [go_sem, w64, wU] <;> exact rfl) | exact rfl) ?_
    refine AW.regR rfl (by simp (maxSteps := 1000000) only [go_sem] <;> exact rfl) (by first | (simp (disch := omega) only [go_sem, w64, wU] <;> exact rfl) | exact rfl) ?_
    refine AW.seq ?_
    refine AW.regR rfl (by simp (maxSteps := 1000000) only [go_sem] <;> exact rfl) (by first | (simp (disch := omega) only [go_sem, w64, wU] <;> exact rfl) | exact rfl) ?_
    refine AW.block ?_
    refine AW.rounds 4 ?_
    refine ARounds.mk ?_
    refine AW.seq ?_
    refine AW.regR rfl (by simp (maxSteps := 1000000) only [go_sem] <;> exact rfl) (by first | (simp (disch := omega) only [go_sem, w64, wU] <;> exact rfl) | exact rfl) ?_
    refine AW.condT (by simp (maxSteps := 1000000) only [go_sem] <;> exact rfl) ?_
    refine AW.skip ?_
    show AW _ _ _ _ _
    refine AW.seq ?_
    refine AW.block ?_
    refine AW.regS rfl ?_
    refine ARN.run1 (by simp (maxSteps := 1000000) only [go_sem] <;> exact rfl) ?_
    refine ARN.pcall (fun hp => c37 _ _ (shape_size op)) rfl (by simp (maxSteps := 1000000) only [go_sem] <;> exact rfl) (by simp only [go_sem]) (by simp (maxSteps := 1000000) only [go_sem] <;> exact rfl) ?_
    refine ARN.run1 (by simp (maxSteps := 1000000) only [go_sem] <;> exact rfl) ?_
    refine ARN.fin (by first | (simp (disch := omega) only [go_sem, w64, wU] <;> exact rfl) | exact rfl) ?_
    refine AW.cond (by simp (maxSteps := 1000000) only [go_sem] <;> exact rfl) (fun hc2 => ?_) (fun hc2 => ?_)
    · try simp only [decide_eq_true_eq, decide_eq_false_iff_not, Bool.or_eq_true, Bool.or_eq_false_iff, Bool.and_eq_true, Bool.and_eq_false_imp, Bool.not_eq_true', Bool.not_eq_false'] at hc2
      refine AW.regR rfl (by simp (maxSteps := 1000000) only [go_sem] <;> exact rfl) (by first | (simp (disch := omega) only [go_sem, w64, wU] <;> exact rfl) | exact rfl) ?_
      refine retK.fin rfl (by simp (maxSteps := 1000000) only [go_sem] <;> exact rfl) (by simp (maxSteps := 1000000) only [go_sem] <;> exact rfl) (.of ?_)
      exact congrArg (PV.int .i64) (fields_5 (by omega) (by omega) (.inl hc2))
    · try simp only [decide_eq_true_eq, decide_eq_false_iff_not, Bool.or_eq_true, Bool.or_eq_false_iff, Bool.and_eq_true, Bool.and_eq_false_imp, Bool.not_eq_true', Bool.not_eq_false'] at hc2
      refine AW.skip ?_
      show AW _ _ _ _ _
      refine AW.regR1 rfl (by simp (maxSteps := 1000000) only [go_sem] <;> exact rfl) (by first | (simp (disch := omega) only [go_sem, w64, wU] <;> exact rfl) | exact rfl) ?_
      show ARounds _ _ _ _ _ _
      refine ARounds.mk ?_
      refine AW.seq ?_
      refine AW.regR rfl (by simp (maxSteps := 1000000) only [go_sem] <;> exact rfl) (by first | (simp (disch := omega) only [go_sem, w64, wU] <;> exact rfl) | exact rfl) ?_
      refine AW.condT (by simp (maxSteps := 1000000) only [go_sem] <;> exact rfl) ?_
      refine AW.skip ?_
      show AW _ _ _ _ _
      refine AW.seq ?_
      refine AW.block ?_
      refine AW.regS rfl ?_
      refine ARN.run1 (by simp (maxSteps := 1000000) only [go_sem] <;> exact rfl) ?_
      refine ARN.pcall (fun hp => c37 _ _ (shape_size op)) rfl (by simp (maxSteps := 1000000) only [go_sem] <;> exact rfl) (by simp only [go_sem]) (by simp (maxSteps := 1000000) only [go_sem] <;> exact rfl) ?_
      refine ARN.run1 (by simp (maxSteps := 1000000) only [go_sem] <;> exact rfl) ?_
      refine ARN.fin (by first | (simp (disch := omega) only [go_sem, w64, wU] <;> exact rfl) | exact rfl) ?_
      refine AW.cond (by simp (maxSteps := 1000000) only [go_sem] <;> exact rfl) (fun hc3 => ?_) (fun hc3 => ?_)
      · try simp only [decide_eq_true_eq, decide_eq_false_iff_not, Bool.or_eq_true, Bool.or_eq_false_iff, Bool.and_eq_true, Bool.and_eq_false_imp, Bool.not_eq_true', Bool.not_eq_false'] at hc3
        refine AW.regR rfl (by simp (maxSteps := 1000000) only [go_sem] <;> exact rfl) (by first | (simp (disch := omega) only [go_sem, w64, wU] <;> exact rfl) | exact rfl) ?_
        refine retK.fin rfl (by simp (maxSteps := 1000000) only [go_sem] <;> exact rfl) (by simp (maxSteps := 1000000) only [go_sem] <;> exact rfl) (.of ?_)
        exact congrArg (PV.int .i64) (fields_5 (by omega) (by omega) (.inr (.inl hc3)))
      · try simp only [decide_eq_true_eq, decide_eq_false_iff_not, Bool.or_eq_true, Bool.or_eq_false_iff, Bool.and_eq_true, Bool.and_eq_false_imp, Bool.not_eq_true', Bool.not_eq_false'] at hc3
        refine AW.skip ?_
        show AW _ _ _ _ _
        refine AW.regR1 rfl (by simp (maxSteps := 1000000) only [go_sem] <;> exact rfl) (by first | (simp (disch := omega) only [go_sem, w64, wU] <;> exact rfl) | exact rfl) ?_
        show ARounds _ _ _ _ _ _
        refine ARounds.mk ?_
        refine AW.seq ?_
        refine AW.regR rfl (by simp (maxSteps := 1000000) only [go_sem] <;> exact rfl) (by first | (simp (disch := omega) only [go_sem, w64, wU] <;> exact rfl) | exact rfl) ?_
        refine AW.condT (by simp (maxSteps := 1000000) only [go_sem] <;> exact rfl) ?_
        refine AW.skip ?_
        show AW _ _ _ _ _
        refine AW.seq ?_
        refine AW.block ?_
        refine AW.regS rfl ?_
        refine ARN.run1 (by simp (maxSteps := 1000000) only [go_sem] <;> exact rfl) ?_
        refine ARN.pcall (fun hp => c37 _ _ (shape_size op)) rfl (by simp (maxSteps := 1000000) only [go_sem] <;> exact rfl) (by simp only [go_sem]) (by simp (maxSteps := 1000000) only [go_sem] <;> exact rfl) ?_
        refine ARN.run1 (by simp (maxSteps := 1000000) only [go_sem] <;> exact rfl) ?_
        refine ARN.fin (by first | (simp (disch := omega) only [go_sem, w64, wU] <;> exact rfl) | exact rfl) ?_
        refine AW.cond (by simp (maxSteps := 1000000) only [go_sem] <;> exact rfl) (fun hc4 => ?_) (fun hc4 => ?_)
        · try simp only [decide_eq_true_eq, decide_eq_false_iff_not, Bool.or_eq_true, Bool.or_eq_false_iff, Bool.and_eq_true, Bool.and_eq_false_imp, Bool.not_eq_true', Bool.not_eq_false'] at hc4
          refine AW.regR rfl (by simp (maxSteps := 1000000) only [go_sem] <;> exact rfl) (by first | (simp (disch := omega) only [go_sem, w64, wU] <;> exact rfl) | exact rfl) ?_
          refine retK.fin rfl (by simp (maxSteps := 1000000) only [go_sem] <;> exact rfl) (by simp (maxSteps := 1000000) only [go_sem] <;> exact rfl) (.of ?_)
          exact congrArg (PV.int .i64) (fields_5 (by omega) (by omega) (.inr (.inr (.inl hc4))))
        · try simp only [decide_eq_true_eq, decide_eq_false_iff_not, Bool.or_eq_true, Bool.or_eq_false_iff, Bool.and_eq_true, Bool.and_eq_false_imp, Bool.not_eq_true', Bool.not_eq_false'] at hc4
          refine AW.skip ?_
          show AW _ _ _ _ _
          refine AW.regR1 rfl (by simp (maxSteps := 1000000) only [go_sem] <;> exact rfl) (by first | (simp (disch := omega) only [go_sem, w64, wU] <;> exact rfl) | exact rfl) ?_
          show ARounds _ _ _ _ _ _
          refine ARounds.mk ?_
          refine AW.seq ?_
          refine AW.regR rfl (by simp (maxSteps := 1000000) only [go_sem] <;> exact rfl) (by first | (simp (disch := omega) only [go_sem, w64, wU] <;> exact rfl) | exact rfl) ?_
          refine AW.condF (by simp (maxSteps := 1000000) only [go_sem] <;> exact rfl) ?_
          refine AW.exit ?_
          show AW _ _ _ _ _
          refine AW.seq ?_
          refine AW.regS rfl ?_
          refine ARN.run1 (by simp (maxSteps := 1000000) only [go_sem] <;> exact rfl) ?_
          refine ARN.pcall (fun hp => c37 _ _ (shape_size op)) rfl (by simp (maxSteps := 1000000) only [go_sem] <;> exact rfl) (by simp only [go_sem]) (by simp (maxSteps := 1000000) only [go_sem] <;> exact rfl) ?_
          refine ARN.run1 (by simp (maxSteps := 1000000) only [go_sem] <;> exact rfl) ?_
          refine ARN.fin (by first | (simp (disch := omega) only [go_sem, w64, wU] <;> exact rfl) | exact rfl) ?_
          refine AW.cond (by simp (maxSteps := 1000000) only [go_sem] <;> exact rfl) (fun hc5 => ?_) (fun hc5 => ?_)
          · try simp only [decide_eq_true_eq, decide_eq_false_iff_not, Bool.or_eq_true, Bool.or_eq_false_iff, Bool.and_eq_true, Bool.and_eq_false_imp, Bool.not_eq_true', Bool.not_eq_false'] at hc5
            refine AW.regR rfl (by simp (maxSteps := 1000000) only [go_sem] <;> exact rfl) (by first | (simp (disch := omega) only [go_sem, w64, wU] <;> exact rfl) | exact rfl) ?_
            refine retK.fin rfl (by simp (maxSteps := 1000000) only [go_sem] <;> exact rfl) (by simp (maxSteps := 1000000) only [go_sem] <;> exact rfl) (.of ?_)
            exact congrArg (PV.int .i64) (fields_5 (by omega) (by omega) (.inr (.inr (.inr hc5))))
          · try simp only [decide_eq_true_eq, decide_eq_false_iff_not, Bool.or_eq_true, Bool.or_eq_false_iff, Bool.and_eq_true, Bool.and_eq_false_imp, Bool.not_eq_true', Bool.not_eq_false'] at hc5
            refine AW.skip ?_
            show AW _ _ _ _ _
            refine AW.seq ?_
            refine AW.regR rfl (by simp (maxSteps := 1000000) only [go_sem] <;> exact rfl) (by first | (simp (disch := omega) only [go_sem, w64, wU] <;> exact rfl) | exact rfl) ?_
            refine AW.block ?_
            refine AW.rounds 4 ?_
            refine ARounds.mk ?_
            refine AW.seq ?_
            refine AW.regR rfl (by simp (maxSteps := 1000000) only [go_sem] <;> exact rfl) (by first | (simp (disch := omega) only [go_sem, w64, wU] <;> exact rfl) | exact rfl) ?_
            refine AW.condT (by simp (maxSteps := 1000000) only [go_sem] <;> exact rfl) ?_
            refine AW.skip ?_
            show AW _ _ _ _ _
            refine AW.seq ?_
            refine AW.block ?_
            refine AW.regS rfl ?_
            refine ARN.run1 (by simp (maxSteps := 1000000) only [go_sem] <;> exact rfl) ?_
            refine ARN.pcall (fun hp => c37 _ _ (shape_size op)) rfl (by simp (maxSteps := 1000000) only [go_sem] <;> exact rfl) (by simp only [go_sem]) (by simp (maxSteps := 1000000) only [go_sem] <;> exact rfl) ?_
            refine ARN.run1 (by simp (maxSteps := 1000000) only [go_sem] <;> exact rfl) ?_
            refine ARN.fin (by first | (simp (disch := omega) only [go_sem, w64, wU] <;> exact rfl) | exact rfl) ?_
            refine AW.cond (by simp (maxSteps := 1000000) only [go_sem] <;> exact rfl) (fun hc6 => ?_) (fun hc6 => ?_)
            · try simp only [decide_eq_true_eq, decide_eq_false_iff_not, Bool.or_eq_true, Bool.or_eq_false_iff, Bool.and_eq_true, Bool.and_eq_false_imp, Bool.not_eq_true', Bool.not_eq_false'] at hc6
              refine AW.regR rfl (by simp (maxSteps := 1000000) only [go_sem] <;> exact rfl) (by first | (simp (disch := omega) only [go_sem, w64, wU] <;> exact rfl) | exact rfl) ?_
              refine retK.fin rfl (by simp (maxSteps := 1000000) only [go_sem] <;> exact rfl) (by simp (maxSteps := 1000000) only [go_sem] <;> exact rfl) (.of ?_)
              exact congrArg (PV.int .i64) (fields_14 (by omega) (by omega) (fun hh => hh.2 (hc2 hh.1)) (fun hh => hh.2 (hc3 hh.1)) (fun hh => hh.2 (hc4 hh.1)) (fun hh => hh.2 (hc5 hh.1)) (.inl hc6))
            · try simp only [decide_eq_true_eq, decide_eq_false_iff_not, Bool.or_eq_true, Bool.or_eq_false_iff, Bool.and_eq_true, Bool.and_eq_false_imp, Bool.not_eq_true', Bool.not_eq_false'] at hc6
              refine AW.skip ?_
              show AW _ _ _ _ _
              refine AW.regR1 rfl (by simp (maxSteps := 1000000) only [go_sem] <;> exact rfl) (by first | (simp (disch := omega) only [go_sem, w64, wU] <;> exact rfl) | exact rfl) ?_
              show ARounds _ _ _ _ _ _
              refine ARounds.mk ?_
              refine AW.seq ?_
              refine AW.regR rfl (by simp (maxSteps := 1000000) only [go_sem] <;> exact rfl) (by first | (simp (disch := omega) only [go_sem, w64, wU] <;> exact rfl) | exact rfl) ?_
              refine AW.condT (by simp (maxSteps := 1000000) only [go_sem] <;> exact rfl) ?_
              refine AW.skip ?_
              show AW _ _ _ _ _
              refine AW.seq ?_
              refine AW.block ?_
              refine AW.regS rfl ?_
              refine ARN.run1 (by simp (maxSteps := 1000000) only [go_sem] <;> exact rfl) ?_
              refine ARN.pcall (fun hp => c37 _ _ (shape_size op)) rfl (by simp (maxSteps := 1000000) only [go_sem] <;> exact rfl) (by simp only [go_sem]) (by simp (maxSteps := 1000000) only [go_sem] <;> exact rfl) ?_
              refine ARN.run1 (by simp (maxSteps := 1000000) only [go_sem] <;> exact rfl) ?_
              refine ARN.fin (by first | (simp (disch := omega) only [go_sem, w64, wU] <;> exact rfl) | exact rfl) ?_
              refine AW.cond (by simp (maxSteps := 1000000) only [go_sem] <;> exact rfl) (fun hc7 => ?_) (fun hc7 => ?_)
              · try simp only [decide_eq_true_eq, decide_eq_false_iff_not, Bool.or_eq_true, Bool.or_eq_false_iff, Bool.and_eq_true, Bool.and_eq_false_imp, Bool.not_eq_true', Bool.not_eq_false'] at hc7
                refine AW.regR rfl (by simp (maxSteps := 1000000) only [go_sem] <;> exact rfl) (by first | (simp (disch := omega) only [go_sem, w64, wU] <;> exact rfl) | exact rfl) ?_
                refine retK.fin rfl (by simp (maxSteps := 1000000) only [go_sem] <;> exact rfl) (by simp (maxSteps := 1000000) only [go_sem] <;> exact rfl) (.of ?_)
                exact congrArg (PV.int .i64) (fields_14 (by omega) (by omega) (fun hh => hh.2 (hc2 hh.1)) (fun hh => hh.2 (hc3 hh.1)) (fun hh => hh.2 (hc4 hh.1)) (fun hh => hh.2 (hc5 hh.1)) (.inr (.inl hc7)))
              · try simp only [decide_eq_true_eq, decide_eq_false_iff_not, Bool.or_eq_true, Bool.or_eq_false_iff, Bool.and_eq_true, Bool.and_eq_false_imp, Bool.not_eq_true', Bool.not_eq_false'] at hc7
                refine AW.skip ?_
                show AW _ _ _ _ _
                refine AW.regR1 rfl (by simp (maxSteps := 1000000) only [go_sem] <;> exact rfl) (by first | (simp (disch := omega) only [go_sem, w64, wU] <;> exact rfl) | exact rfl) ?_
                show ARounds _ _ _ _ _ _
                refine ARounds.mk ?_
                refine AW.seq ?_
                refine AW.regR rfl (by simp (maxSteps := 1000000) only [go_sem] <;> exact rfl) (by first | (simp (disch := omega) only [go_sem, w64, wU] <;> exact rfl) | exact rfl) ?_
                refine AW.condT (by simp (maxSteps := 1000000) only [go_sem] <;> exact rfl) ?_
                refine AW.skip ?_
                show AW _ _ _ _ _
                refine AW.seq ?_
                refine AW.block ?_
                refine AW.regS rfl ?_
                refine ARN.run1 (by simp (maxSteps := 1000000) only [go_sem] <;> exact rfl) ?_
                refine ARN.pcall (fun hp => c37 _ _ (shape_size op)) rfl (by simp (maxSteps := 1000000) only [go_sem] <;> exact rfl) (by simp only [go_sem]) (by simp (maxSteps := 1000000) only [go_sem] <;> exact rfl) ?_
                refine ARN.run1 (by simp (maxSteps := 1000000) only [go_sem] <;> exact rfl) ?_
                refine ARN.fin (by first | (simp (disch := omega) only [go_sem, w64, wU] <;> exact rfl) | exact rfl) ?_
                refine AW.cond (by simp (maxSteps := 1000000) only [go_sem] <;> exact rfl) (fun hc8 => ?_) (fun hc8 => ?_)
                · try simp only [decide_eq_true_eq, decide_eq_false_iff_not, Bool.or_eq_true, Bool.or_eq_false_iff, Bool.and_eq_true, Bool.and_eq_false_imp, Bool.not_eq_true', Bool.not_eq_false'] at hc8
                  refine AW.regR rfl (by simp (maxSteps := 1000000) only [go_sem] <;> exact rfl) (by first | (simp (disch := omega) only [go_sem, w64, wU] <;> exact rfl) | exact rfl) ?_
                  refine retK.fin rfl (by simp (maxSteps := 1000000) only [go_sem] <;> exact rfl) (by simp (maxSteps := 1000000) only [go_sem] <;> exact rfl) (.of ?_)
                  exact congrArg (PV.int .i64) (fields_14 (by omega) (by omega) (fun hh => hh.2 (hc2 hh.1)) (fun hh => hh.2 (hc3 hh.1)) (fun hh => hh.2 (hc4 hh.1)) (fun hh => hh.2 (hc5 hh.1)) (.inr (.inr hc8)))
                · try simp only [decide_eq_true_eq, decide_eq_false_iff_not, Bool.or_eq_true, Bool.or_eq_false_iff, Bool.and_eq_true, Bool.and_eq_false_imp, Bool.not_eq_true', Bool.not_eq_false'] at hc8
                  refine AW.skip ?_
                  show AW _ _ _ _ _
                  refine AW.regR1 rfl (by simp (maxSteps := 1000000) only [go_sem] <;> exact rfl) (by first | (simp (disch := omega) only [go_sem, w64, wU] <;> exact rfl) | exact rfl) ?_
                  show ARounds _ _ _ _ _ _
                  refine ARounds.mk ?_
                  refine AW.seq ?_
                  refine AW.regR rfl (by simp (maxSteps := 1000000) only [go_sem] <;> exact rfl) (by first | (simp (disch := omega) only [go_sem, w64, wU] <;> exact rfl) | exact rfl) ?_
                  refine AW.condF (by simp (maxSteps := 1000000) only [go_sem] <;> exact rfl) ?_
                  refine AW.exit ?_
                  show AW _ _ _ _ _
                  refine AW.regR rfl (by simp (maxSteps := 1000000) only [go_sem] <;> exact rfl) (by first | (simp (disch := omega) only [go_sem, w64, wU] <;> exact rfl) | exact rfl) ?_
                  refine retK.fin rfl (by simp (maxSteps := 1000000) only [go_sem] <;> exact rfl) (by simp (maxSteps := 1000000) only [go_sem] <;> exact rfl) (.of ?_)
                  exact congrArg (PV.int .i64) (fields_0 (by omega) (by omega) (fun hh => hh.2 (hc2 hh.1)) (fun hh => hh.2 (hc3 hh.1)) (fun hh => hh.2 (hc4 hh.1)) (fun hh => hh.2 (hc5 hh.1)) (fun hh => by have := hc6 hh.1; omega) (fun hh => by have := hc7 hh.1; omega) (fun hh => by have := hc8 hh.1; omega))
end Go.Ab.Tryd
