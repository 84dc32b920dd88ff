/- Whether an instruction may be; the laws. -/
import Derived.Test.YtknlgjeeenkleaaIsF
namespace Go.Ab.Try
open Go.Proofs Go.Ab Go.RowKit
set_option linter.unusedVariables false
set_option linter.unusedSimpArgs false
set_option maxRecDepth 100000
theorem c69 (op a b c m : Int) (r n : Int) (hm : W64 m) : PC Try.prog 69 [.agg [.int .i64 op, .int .i64 a, .int .i64 b, .int .i64 c, .int .u64 m], .int .i64 r, .int .i64 n] (.int .i64 (checkE op a b c m r n)) := by
  refine PC.start 64 Try.call69 Try.func69 rfl Try.ntmps69 Try.results69 (by simp only [go_sem]; exact rfl) fun z hz => ?_
  refine AW.regR rfl (by simp (maxSteps := 1000000) only [go_sem] <;> exact rfl) (by simp (disch := omega) only [go_sem, w64, wU] <;> exact rfl) ?_
  refine AW.seq ?_
  refine AW.regS rfl ?_
  refine ARN.run1 (by simp (maxSteps := 1000000) only [go_sem] <;> exact rfl) ?_
  refine ARN.pcall (fun hp => c118 op a b c m) rfl (by simp (maxSteps := 1000000) only [go_sem] <;> exact rfl) (by simp only [go_sem]) (by simp (maxSteps := 1000000) only [go_sem] <;> exact rfl) ?_
  refine ARN.run1 (by simp (maxSteps := 1000000) only [go_sem] <;> exact rfl) ?_
  refine ARN.fin (by simp (disch := omega) only [go_sem, w64, wU] <;> exact rfl) ?_
  refine AW.regR rfl (by simp (maxSteps := 1000000) only [go_sem] <;> exact rfl) (by simp (disch := omega) only [go_sem, w64, wU] <;> exact rfl) ?_
  refine AW.cond (by simp (maxSteps := 1000000) only [go_sem] <;> exact rfl) (fun hc1 => ?_) (fun hc1 => ?_)
  · try simp only [decide_eq_true_eq, decide_eq_false_iff_not, Bool.or_eq_true, Bool.or_eq_false_iff, Bool.and_eq_true, Bool.and_eq_false_imp, Bool.not_eq_true', Bool.not_eq_false'] at hc1
    refine AW.regR rfl (by simp (maxSteps := 1000000) only [go_sem] <;> exact rfl) (by simp (disch := omega) only [go_sem, w64, wU] <;> exact rfl) ?_
    refine retK.fin rfl (by simp (maxSteps := 1000000) only [go_sem] <;> exact rfl) (by simp (maxSteps := 1000000) only [go_sem] <;> exact rfl) (.of ?_)
    rw [check_f hc1]
  · try simp only [decide_eq_true_eq, decide_eq_false_iff_not, Bool.or_eq_true, Bool.or_eq_false_iff, Bool.and_eq_true, Bool.and_eq_false_imp, Bool.not_eq_true', Bool.not_eq_false'] at hc1
    refine AW.skip ?_
    show AW _ _ _ _ _
    refine AW.seq ?_
    have hm0 := hm.1
    refine AW.regR rfl (by simp (maxSteps := 1000000) only [go_sem] <;> exact rfl) (by simp (disch := omega) only [go_sem, w64, wU] <;> exact rfl) ?_
    refine AW.block ?_
    refine AW.regR rfl (by simp (maxSteps := 1000000) only [go_sem] <;> exact rfl) (by simp (disch := omega) only [go_sem, w64, wU] <;> exact rfl) ?_
    refine AW.cond (by simp (maxSteps := 1000000) only [go_sem] <;> exact rfl) (fun hc2 => ?_) (fun hc2 => ?_)
    · try simp only [decide_eq_true_eq, decide_eq_false_iff_not, Bool.or_eq_true, Bool.or_eq_false_iff, Bool.and_eq_true, Bool.and_eq_false_imp, Bool.not_eq_true', Bool.not_eq_false'] at hc2
      refine AW.regR rfl (by simp (maxSteps := 1000000) only [go_sem] <;> exact rfl) (by simp (disch := omega) only [go_sem, w64, wU] <;> exact rfl) ?_
      refine AW.cond (by simp (maxSteps := 1000000) only [go_sem] <;> exact rfl) (fun hc3 => ?_) (fun hc3 => ?_)
      · try simp only [decide_eq_true_eq, decide_eq_false_iff_not, Bool.or_eq_true, Bool.or_eq_false_iff, Bool.and_eq_true, Bool.and_eq_false_imp, Bool.not_eq_true', Bool.not_eq_false'] at hc3
        refine AW.regR rfl (by simp (maxSteps := 1000000) only [go_sem] <;> exact rfl) (by simp (disch := omega) only [go_sem, w64, wU] <;> exact rfl) ?_
        refine retK.fin rfl (by simp (maxSteps := 1000000) only [go_sem] <;> exact rfl) (by simp (maxSteps := 1000000) only [go_sem] <;> exact rfl) (.of ?_)
        obtain rfl : op = 3 := by assumption
        exact congrArg (PV.int .i64) (check_r hc1 (by rw [rest_3, if_pos (by omega)]))
      · try simp only [decide_eq_true_eq, decide_eq_false_iff_not, Bool.or_eq_true, Bool.or_eq_false_iff, Bool.and_eq_true, Bool.and_eq_false_imp, Bool.not_eq_true', Bool.not_eq_false'] at hc3
        refine AW.skip ?_
        show AW _ _ _ _ _
        refine AW.regR rfl (by simp (maxSteps := 1000000) only [go_sem] <;> exact rfl) (by simp (disch := omega) only [go_sem, w64, wU] <;> exact rfl) ?_
        refine retK.fin rfl (by simp (maxSteps := 1000000) only [go_sem] <;> exact rfl) (by simp (maxSteps := 1000000) only [go_sem] <;> exact rfl) (.of ?_)
        obtain rfl : op = 3 := by assumption
        exact congrArg (PV.int .i64) (check_r hc1 (by rw [rest_3, if_neg (by omega)]))
    · try simp only [decide_eq_true_eq, decide_eq_false_iff_not, Bool.or_eq_true, Bool.or_eq_false_iff, Bool.and_eq_true, Bool.and_eq_false_imp, Bool.not_eq_true', Bool.not_eq_false'] at hc2
      refine AW.regR rfl (by simp (maxSteps := 1000000) only [go_sem] <;> exact rfl) (by simp (disch := omega) only [go_sem, w64, wU] <;> exact rfl) ?_
      refine AW.cond (by simp (maxSteps := 1000000) only [go_sem] <;> exact rfl) (fun hc4 => ?_) (fun hc4 => ?_)
      · try simp only [decide_eq_true_eq, decide_eq_false_iff_not, Bool.or_eq_true, Bool.or_eq_false_iff, Bool.and_eq_true, Bool.and_eq_false_imp, Bool.not_eq_true', Bool.not_eq_false'] at hc4
        refine AW.regR rfl (by simp (maxSteps := 1000000) only [go_sem] <;> exact rfl) (by simp (disch := omega) only [go_sem, w64, wU] <;> exact rfl) ?_
        refine AW.cond (by simp (maxSteps := 1000000) only [go_sem] <;> exact rfl) (fun hc5 => ?_) (fun hc5 => ?_)
        · try simp only [decide_eq_true_eq, decide_eq_false_iff_not, Bool.or_eq_true, Bool.or_eq_false_iff, Bool.and_eq_true, Bool.and_eq_false_imp, Bool.not_eq_true', Bool.not_eq_false'] at hc5
          refine AW.regR rfl (by simp (maxSteps := 1000000) only [go_sem] <;> exact rfl) (by simp (disch := omega) only [go_sem, w64, wU] <;> exact rfl) ?_
          refine retK.fin rfl (by simp (maxSteps := 1000000) only [go_sem] <;> exact rfl) (by simp (maxSteps := 1000000) only [go_sem] <;> exact rfl) (.of ?_)
          obtain rfl : op = 4 := by assumption
          exact congrArg (PV.int .i64) (check_r hc1 (by rw [rest_4, if_pos (by omega)]))
        · try simp only [decide_eq_true_eq, decide_eq_false_iff_not, Bool.or_eq_true, Bool.or_eq_false_iff, Bool.and_eq_true, Bool.and_eq_false_imp, Bool.not_eq_true', Bool.not_eq_false'] at hc5
          refine AW.skip ?_
          show AW _ _ _ _ _
          refine AW.regR rfl (by simp (maxSteps := 1000000) only [go_sem] <;> exact rfl) (by simp (disch := omega) only [go_sem, w64, wU] <;> exact rfl) ?_
          refine retK.fin rfl (by simp (maxSteps := 1000000) only [go_sem] <;> exact rfl) (by simp (maxSteps := 1000000) only [go_sem] <;> exact rfl) (.of ?_)
          obtain rfl : op = 4 := by assumption
          exact congrArg (PV.int .i64) (check_r hc1 (by rw [rest_4, if_neg (by omega)]))
      · try simp only [decide_eq_true_eq, decide_eq_false_iff_not, Bool.or_eq_true, Bool.or_eq_false_iff, Bool.and_eq_true, Bool.and_eq_false_imp, Bool.not_eq_true', Bool.not_eq_false'] at hc4
        refine AW.seq ?_
        refine AW.regR rfl (by simp (maxSteps := 1000000) only [go_sem] <;> exact rfl) (by simp (disch := omega) only [go_sem, w64, wU] <;> exact rfl) ?_
        refine AW.cond (by simp (maxSteps := 1000000) only [go_sem] <;> exact rfl) (fun hc6 => ?_) (fun hc6 => ?_)
        · try simp only [decide_eq_true_eq, decide_eq_false_iff_not, Bool.or_eq_true, Bool.or_eq_false_iff, Bool.and_eq_true, Bool.and_eq_false_imp, Bool.not_eq_true', Bool.not_eq_false'] at hc6
          have h35 : op = 5 := hc6
          refine AW.skip ?_
          show AW _ _ _ _ _
          refine AW.condT (by simp (maxSteps := 1000000) only [go_sem, h35] <;> exact rfl) ?_
          refine AW.regR rfl (by simp (maxSteps := 1000000) only [go_sem, h35] <;> exact rfl) (by simp (disch := omega) only [go_sem, w64, wU, h35] <;> exact rfl) ?_
          refine AW.cond (by simp (maxSteps := 1000000) only [go_sem, h35] <;> exact rfl) (fun hc8 => ?_) (fun hc8 => ?_)
          · try simp only [decide_eq_true_eq, decide_eq_false_iff_not, Bool.or_eq_true, Bool.or_eq_false_iff, Bool.and_eq_true, Bool.and_eq_false_imp, Bool.not_eq_true', Bool.not_eq_false'] at hc8
            refine AW.regR rfl (by simp (maxSteps := 1000000) only [go_sem, h35] <;> exact rfl) (by simp (disch := omega) only [go_sem, w64, wU, h35] <;> exact rfl) ?_
            refine retK.fin rfl (by simp (maxSteps := 1000000) only [go_sem, h35] <;> exact rfl) (by simp (maxSteps := 1000000) only [go_sem, h35] <;> exact rfl) (.of ?_)
            obtain rfl : op = 5 := by assumption
            exact congrArg (PV.int .i64) (check_r hc1 (by rw [rest_5, if_pos (by assumption)]))
          · try simp only [decide_eq_true_eq, decide_eq_false_iff_not, Bool.or_eq_true, Bool.or_eq_false_iff, Bool.and_eq_true, Bool.and_eq_false_imp, Bool.not_eq_true', Bool.not_eq_false'] at hc8
            refine AW.skip ?_
            show AW _ _ _ _ _
            refine AW.regR rfl (by simp (maxSteps := 1000000) only [go_sem, h35] <;> exact rfl) (by simp (disch := omega) only [go_sem, w64, wU, h35] <;> exact rfl) ?_
            refine retK.fin rfl (by simp (maxSteps := 1000000) only [go_sem, h35] <;> exact rfl) (by simp (maxSteps := 1000000) only [go_sem, h35] <;> exact rfl) (.of ?_)
            obtain rfl : op = 5 := by assumption
            exact congrArg (PV.int .i64) (check_r hc1 (by rw [rest_5, if_neg (by omega)]))
        · try simp only [decide_eq_true_eq, decide_eq_false_iff_not, Bool.or_eq_true, Bool.or_eq_false_iff, Bool.and_eq_true, Bool.and_eq_false_imp, Bool.not_eq_true', Bool.not_eq_false'] at hc6
          refine AW.regR1 rfl (by simp (maxSteps := 1000000) only [go_sem] <;> exact rfl) (by simp (disch := omega) only [go_sem, w64, wU] <;> exact rfl) ?_
          show AW _ _ _ _ _
          refine AW.cond (by simp (maxSteps := 1000000) only [go_sem] <;> exact rfl) (fun hc9 => ?_) (fun hc9 => ?_)
          · try simp only [decide_eq_true_eq, decide_eq_false_iff_not, Bool.or_eq_true, Bool.or_eq_false_iff, Bool.and_eq_true, Bool.and_eq_false_imp, Bool.not_eq_true', Bool.not_eq_false'] at hc9
            refine AW.regR rfl (by simp (maxSteps := 1000000) only [go_sem] <;> exact rfl) (by simp (disch := omega) only [go_sem, w64, wU] <;> exact rfl) ?_
            refine AW.cond (by simp (maxSteps := 1000000) only [go_sem] <;> exact rfl) (fun hc10 => ?_) (fun hc10 => ?_)
            · try simp only [decide_eq_true_eq, decide_eq_false_iff_not, Bool.or_eq_true, Bool.or_eq_false_iff, Bool.and_eq_true, Bool.and_eq_false_imp, Bool.not_eq_true', Bool.not_eq_false'] at hc10
              refine AW.regR rfl (by simp (maxSteps := 1000000) only [go_sem] <;> exact rfl) (by simp (disch := omega) only [go_sem, w64, wU] <;> exact rfl) ?_
              refine retK.fin rfl (by simp (maxSteps := 1000000) only [go_sem] <;> exact rfl) (by simp (maxSteps := 1000000) only [go_sem] <;> exact rfl) (.of ?_)
              obtain rfl : op = 6 := by assumption
              exact congrArg (PV.int .i64) (check_r hc1 (by rw [rest_6, if_pos (by assumption)]))
            · try simp only [decide_eq_true_eq, decide_eq_false_iff_not, Bool.or_eq_true, Bool.or_eq_false_iff, Bool.and_eq_true, Bool.and_eq_false_imp, Bool.not_eq_true', Bool.not_eq_false'] at hc10
              refine AW.skip ?_
              show AW _ _ _ _ _
              refine AW.regR rfl (by simp (maxSteps := 1000000) only [go_sem] <;> exact rfl) (by simp (disch := omega) only [go_sem, w64, wU] <;> exact rfl) ?_
              refine retK.fin rfl (by simp (maxSteps := 1000000) only [go_sem] <;> exact rfl) (by simp (maxSteps := 1000000) only [go_sem] <;> exact rfl) (.of ?_)
              obtain rfl : op = 6 := by assumption
              exact congrArg (PV.int .i64) (check_r hc1 (by rw [rest_6, if_neg (by omega)]))
          · try simp only [decide_eq_true_eq, decide_eq_false_iff_not, Bool.or_eq_true, Bool.or_eq_false_iff, Bool.and_eq_true, Bool.and_eq_false_imp, Bool.not_eq_true', Bool.not_eq_false'] at hc9
            refine AW.regR rfl (by simp (maxSteps := 1000000) only [go_sem] <;> exact rfl) (by simp (disch := omega) only [go_sem, w64, wU] <;> exact rfl) ?_
            refine AW.cond (by simp (maxSteps := 1000000) only [go_sem] <;> exact rfl) (fun hc11 => ?_) (fun hc11 => ?_)
            · try simp only [decide_eq_true_eq, decide_eq_false_iff_not, Bool.or_eq_true, Bool.or_eq_false_iff, Bool.and_eq_true, Bool.and_eq_false_imp, Bool.not_eq_true', Bool.not_eq_false'] at hc11
              refine AW.seq ?_
              refine AW.regR rfl (by simp (maxSteps := 1000000) only [go_sem] <;> exact rfl) (by simp (disch := omega) only [go_sem, w64, wU] <;> exact rfl) ?_
              refine AW.cond (by simp (maxSteps := 1000000) only [go_sem] <;> exact rfl) (fun hc12 => ?_) (fun hc12 => ?_)
              · try simp only [decide_eq_true_eq, decide_eq_false_iff_not, Bool.or_eq_true, Bool.or_eq_false_iff, Bool.and_eq_true, Bool.and_eq_false_imp, Bool.not_eq_true', Bool.not_eq_false'] at hc12
                refine AW.regR rfl (by simp (maxSteps := 1000000) only [go_sem] <;> exact rfl) (by simp (disch := omega) only [go_sem, w64, wU] <;> exact rfl) ?_
                refine retK.fin rfl (by simp (maxSteps := 1000000) only [go_sem] <;> exact rfl) (by simp (maxSteps := 1000000) only [go_sem] <;> exact rfl) (.of ?_)
                obtain rfl : op = 9 := by assumption
                exact congrArg (PV.int .i64) (check_r hc1 (by rw [rest_9, if_pos (by omega)]))
              · try simp only [decide_eq_true_eq, decide_eq_false_iff_not, Bool.or_eq_true, Bool.or_eq_false_iff, Bool.and_eq_true, Bool.and_eq_false_imp, Bool.not_eq_true', Bool.not_eq_false'] at hc12
                refine AW.skip ?_
                show AW _ _ _ _ _
                refine AW.regR rfl (by simp (maxSteps := 1000000) only [go_sem] <;> exact rfl) (by simp (disch := omega) only [go_sem, w64, wU] <;> exact rfl) ?_
                refine AW.cond (by simp (maxSteps := 1000000) only [go_sem] <;> exact rfl) (fun hc13 => ?_) (fun hc13 => ?_)
                · try simp only [decide_eq_true_eq, decide_eq_false_iff_not, Bool.or_eq_true, Bool.or_eq_false_iff, Bool.and_eq_true, Bool.and_eq_false_imp, Bool.not_eq_true', Bool.not_eq_false'] at hc13
                  refine AW.regR rfl (by simp (maxSteps := 1000000) only [go_sem] <;> exact rfl) (by simp (disch := omega) only [go_sem, w64, wU] <;> exact rfl) ?_
                  refine retK.fin rfl (by simp (maxSteps := 1000000) only [go_sem] <;> exact rfl) (by simp (maxSteps := 1000000) only [go_sem] <;> exact rfl) (.of ?_)
                  obtain rfl : op = 9 := by assumption
                  exact congrArg (PV.int .i64) (check_r hc1 (by rw [rest_9, if_neg (by omega), if_pos (by omega)]))
                · try simp only [decide_eq_true_eq, decide_eq_false_iff_not, Bool.or_eq_true, Bool.or_eq_false_iff, Bool.and_eq_true, Bool.and_eq_false_imp, Bool.not_eq_true', Bool.not_eq_false'] at hc13
                  refine AW.skip ?_
                  show AW _ _ _ _ _
                  refine AW.regR rfl (by simp (maxSteps := 1000000) only [go_sem] <;> exact rfl) (by simp (disch := omega) only [go_sem, w64, wU] <;> exact rfl) ?_
                  refine retK.fin rfl (by simp (maxSteps := 1000000) only [go_sem] <;> exact rfl) (by simp (maxSteps := 1000000) only [go_sem] <;> exact rfl) (.of ?_)
                  obtain rfl : op = 9 := by assumption
                  exact congrArg (PV.int .i64) (check_r hc1 (by rw [rest_9, if_neg (by omega), if_neg (by omega)]))
            · try simp only [decide_eq_true_eq, decide_eq_false_iff_not, Bool.or_eq_true, Bool.or_eq_false_iff, Bool.and_eq_true, Bool.and_eq_false_imp, Bool.not_eq_true', Bool.not_eq_false'] at hc11
              refine AW.regR rfl (by simp (maxSteps := 1000000) only [go_sem] <;> exact rfl) (by simp (disch := omega) only [go_sem, w64, wU] <;> exact rfl) ?_
              refine AW.cond (by simp (maxSteps := 1000000) only [go_sem] <;> exact rfl) (fun hc14 => ?_) (fun hc14 => ?_)
              · try simp only [decide_eq_true_eq, decide_eq_false_iff_not, Bool.or_eq_true, Bool.or_eq_false_iff, Bool.and_eq_true, Bool.and_eq_false_imp, Bool.not_eq_true', Bool.not_eq_false'] at hc14
                refine AW.regR rfl (by simp (maxSteps := 1000000) only [go_sem] <;> exact rfl) (by simp (disch := omega) only [go_sem, w64, wU] <;> exact rfl) ?_
                refine AW.cond (by simp (maxSteps := 1000000) only [go_sem] <;> exact rfl) (fun hc15 => ?_) (fun hc15 => ?_)
                · try simp only [decide_eq_true_eq, decide_eq_false_iff_not, Bool.or_eq_true, Bool.or_eq_false_iff, Bool.and_eq_true, Bool.and_eq_false_imp, Bool.not_eq_true', Bool.not_eq_false'] at hc15
                  refine AW.regR rfl (by simp (maxSteps := 1000000) only [go_sem] <;> exact rfl) (by simp (disch := omega) only [go_sem, w64, wU] <;> exact rfl) ?_
                  refine retK.fin rfl (by simp (maxSteps := 1000000) only [go_sem] <;> exact rfl) (by simp (maxSteps := 1000000) only [go_sem] <;> exact rfl) (.of ?_)
                  obtain rfl : op = 15 := by assumption
                  exact congrArg (PV.int .i64) (check_r hc1 (by rw [rest_15, if_pos (by omega)]))
                · try simp only [decide_eq_true_eq, decide_eq_false_iff_not, Bool.or_eq_true, Bool.or_eq_false_iff, Bool.and_eq_true, Bool.and_eq_false_imp, Bool.not_eq_true', Bool.not_eq_false'] at hc15
                  refine AW.skip ?_
                  show AW _ _ _ _ _
                  refine AW.regR rfl (by simp (maxSteps := 1000000) only [go_sem] <;> exact rfl) (by simp (disch := omega) only [go_sem, w64, wU] <;> exact rfl) ?_
                  refine retK.fin rfl (by simp (maxSteps := 1000000) only [go_sem] <;> exact rfl) (by simp (maxSteps := 1000000) only [go_sem] <;> exact rfl) (.of ?_)
                  obtain rfl : op = 15 := by assumption
                  exact congrArg (PV.int .i64) (check_r hc1 (by rw [rest_15, if_neg (by omega)]))
              · try simp only [decide_eq_true_eq, decide_eq_false_iff_not, Bool.or_eq_true, Bool.or_eq_false_iff, Bool.and_eq_true, Bool.and_eq_false_imp, Bool.not_eq_true', Bool.not_eq_false'] at hc14
                refine AW.skip ?_
                show AW _ _ _ _ _
                refine AW.regR rfl (by simp (maxSteps := 1000000) only [go_sem] <;> exact rfl) (by simp (disch := omega) only [go_sem, w64, wU] <;> exact rfl) ?_
                refine retK.fin rfl (by simp (maxSteps := 1000000) only [go_sem] <;> exact rfl) (by simp (maxSteps := 1000000) only [go_sem] <;> exact rfl) (.of ?_)
                exact congrArg (PV.int .i64) (check_r hc1 (by rw [rest_no (by omega) (by omega) (by omega) (by omega) (by omega) (by omega)]))
theorem c70 (op a b c m : Int) (r n : Int) (hm : W64 m) : PC Try.prog 70 [.agg [.int .i64 op, .int .i64 a, .int .i64 b, .int .i64 c, .int .u64 m], .int .i64 r, .int .i64 n] (.int .i64 (checkE op a b c m r n)) := by
  refine PC.start 64 Try.call70 Try.func70 rfl Try.ntmps70 Try.results70 (by simp only [go_sem]; exact rfl) fun z hz => ?_
  refine AW.regR rfl (by simp (maxSteps := 1000000) only [go_sem] <;> exact rfl) (by simp (disch := omega) only [go_sem, w64, wU] <;> exact rfl) ?_
  refine AW.seq ?_
  refine AW.regS rfl ?_
  refine ARN.run1 (by simp (maxSteps := 1000000) only [go_sem] <;> exact rfl) ?_
  refine ARN.pcall (fun hp => c119 op a b c m) rfl (by simp (maxSteps := 1000000) only [go_sem] <;> exact rfl) (by simp only [go_sem]) (by simp (maxSteps := 1000000) only [go_sem] <;> exact rfl) ?_
  refine ARN.run1 (by simp (maxSteps := 1000000) only [go_sem] <;> exact rfl) ?_
  refine ARN.fin (by simp (disch := omega) only [go_sem, w64, wU] <;> exact rfl) ?_
  refine AW.regR rfl (by simp (maxSteps := 1000000) only [go_sem] <;> exact rfl) (by simp (disch := omega) only [go_sem, w64, wU] <;> exact rfl) ?_
  refine AW.cond (by simp (maxSteps := 1000000) only [go_sem] <;> exact rfl) (fun hc1 => ?_) (fun hc1 => ?_)
  · try simp only [decide_eq_true_eq, decide_eq_false_iff_not, Bool.or_eq_true, Bool.or_eq_false_iff, Bool.and_eq_true, Bool.and_eq_false_imp, Bool.not_eq_true', Bool.not_eq_false'] at hc1
    refine AW.regR rfl (by simp (maxSteps := 1000000) only [go_sem] <;> exact rfl) (by simp (disch := omega) only [go_sem, w64, wU] <;> exact rfl) ?_
    refine retK.fin rfl (by simp (maxSteps := 1000000) only [go_sem] <;> exact rfl) (by simp (maxSteps := 1000000) only [go_sem] <;> exact rfl) (.of ?_)
    rw [check_f hc1]
  · try simp only [decide_eq_true_eq, decide_eq_false_iff_not, Bool.or_eq_true, Bool.or_eq_false_iff, Bool.and_eq_true, Bool.and_eq_false_imp, Bool.not_eq_true', Bool.not_eq_false'] at hc1
    refine AW.skip ?_
    show AW _ _ _ _ _
    refine AW.seq ?_
    have hm0 := hm.1
    refine AW.regR rfl (by simp (maxSteps := 1000000) only [go_sem] <;> exact rfl) (by simp (disch := omega) only [go_sem, w64, wU] <;> exact rfl) ?_
    refine AW.block ?_
    refine AW.regR rfl (by simp (maxSteps := 1000000) only [go_sem] <;> exact rfl) (by simp (disch := omega) only [go_sem, w64, wU] <;> exact rfl) ?_
    refine AW.cond (by simp (maxSteps := 1000000) only [go_sem] <;> exact rfl) (fun hc2 => ?_) (fun hc2 => ?_)
    · try simp only [decide_eq_true_eq, decide_eq_false_iff_not, Bool.or_eq_true, Bool.or_eq_false_iff, Bool.and_eq_true, Bool.and_eq_false_imp, Bool.not_eq_true', Bool.not_eq_false'] at hc2
      refine AW.regR rfl (by simp (maxSteps := 1000000) only [go_sem] <;> exact rfl) (by simp (disch := omega) only [go_sem, w64, wU] <;> exact rfl) ?_
      refine AW.cond (by simp (maxSteps := 1000000) only [go_sem] <;> exact rfl) (fun hc3 => ?_) (fun hc3 => ?_)
      · try simp only [decide_eq_true_eq, decide_eq_false_iff_not, Bool.or_eq_true, Bool.or_eq_false_iff, Bool.and_eq_true, Bool.and_eq_false_imp, Bool.not_eq_true', Bool.not_eq_false'] at hc3
        refine AW.regR rfl (by simp (maxSteps := 1000000) only [go_sem] <;> exact rfl) (by simp (disch := omega) only [go_sem, w64, wU] <;> exact rfl) ?_
        refine retK.fin rfl (by simp (maxSteps := 1000000) only [go_sem] <;> exact rfl) (by simp (maxSteps := 1000000) only [go_sem] <;> exact rfl) (.of ?_)
        obtain rfl : op = 3 := by assumption
        exact congrArg (PV.int .i64) (check_r hc1 (by rw [rest_3, if_pos (by omega)]))
      · try simp only [decide_eq_true_eq, decide_eq_false_iff_not, Bool.or_eq_true, Bool.or_eq_false_iff, Bool.and_eq_true, Bool.and_eq_false_imp, Bool.not_eq_true', Bool.not_eq_false'] at hc3
        refine AW.skip ?_
        show AW _ _ _ _ _
        refine AW.regR rfl (by simp (maxSteps := 1000000) only [go_sem] <;> exact rfl) (by simp (disch := omega) only [go_sem, w64, wU] <;> exact rfl) ?_
        refine retK.fin rfl (by simp (maxSteps := 1000000) only [go_sem] <;> exact rfl) (by simp (maxSteps := 1000000) only [go_sem] <;> exact rfl) (.of ?_)
        obtain rfl : op = 3 := by assumption
        exact congrArg (PV.int .i64) (check_r hc1 (by rw [rest_3, if_neg (by omega)]))
    · try simp only [decide_eq_true_eq, decide_eq_false_iff_not, Bool.or_eq_true, Bool.or_eq_false_iff, Bool.and_eq_true, Bool.and_eq_false_imp, Bool.not_eq_true', Bool.not_eq_false'] at hc2
      refine AW.regR rfl (by simp (maxSteps := 1000000) only [go_sem] <;> exact rfl) (by simp (disch := omega) only [go_sem, w64, wU] <;> exact rfl) ?_
      refine AW.cond (by simp (maxSteps := 1000000) only [go_sem] <;> exact rfl) (fun hc4 => ?_) (fun hc4 => ?_)
      · try simp only [decide_eq_true_eq, decide_eq_false_iff_not, Bool.or_eq_true, Bool.or_eq_false_iff, Bool.and_eq_true, Bool.and_eq_false_imp, Bool.not_eq_true', Bool.not_eq_false'] at hc4
        refine AW.regR rfl (by simp (maxSteps := 1000000) only [go_sem] <;> exact rfl) (by simp (disch := omega) only [go_sem, w64, wU] <;> exact rfl) ?_
        refine AW.cond (by simp (maxSteps := 1000000) only [go_sem] <;> exact rfl) (fun hc5 => ?_) (fun hc5 => ?_)
        · try simp only [decide_eq_true_eq, decide_eq_false_iff_not, Bool.or_eq_true, Bool.or_eq_false_iff, Bool.and_eq_true, Bool.and_eq_false_imp, Bool.not_eq_true', Bool.not_eq_false'] at hc5
          refine AW.regR rfl (by simp (maxSteps := 1000000) only [go_sem] <;> exact rfl) (by simp (disch := omega) only [go_sem, w64, wU] <;> exact rfl) ?_
          refine retK.fin rfl (by simp (maxSteps := 1000000) only [go_sem] <;> exact rfl) (by simp (maxSteps := 1000000) only [go_sem] <;> exact rfl) (.of ?_)
          obtain rfl : op = 4 := by assumption
          exact congrArg (PV.int .i64) (check_r hc1 (by rw [rest_4, if_pos (by omega)]))
        · try simp only [decide_eq_true_eq, decide_eq_false_iff_not, Bool.or_eq_true, Bool.or_eq_false_iff, Bool.and_eq_true, Bool.and_eq_false_imp, Bool.not_eq_true', Bool.not_eq_false'] at hc5
          refine AW.skip ?_
          show AW _ _ _ _ _
          refine AW.regR rfl (by simp (maxSteps := 1000000) only [go_sem] <;> exact rfl) (by simp (disch := omega) only [go_sem, w64, wU] <;> exact rfl) ?_
          refine retK.fin rfl (by simp (maxSteps := 1000000) only [go_sem] <;> exact rfl) (by simp (maxSteps := 1000000) only [go_sem] <;> exact rfl) (.of ?_)
          obtain rfl : op = 4 := by assumption
          exact congrArg (PV.int .i64) (check_r hc1 (by rw [rest_4, if_neg (by omega)]))
      · try simp only [decide_eq_true_eq, decide_eq_false_iff_not, Bool.or_eq_true, Bool.or_eq_false_iff, Bool.and_eq_true, Bool.and_eq_false_imp, Bool.not_eq_true', Bool.not_eq_false'] at hc4
        refine AW.seq ?_
        refine AW.regR rfl (by simp (maxSteps := 1000000) only [go_sem] <;> exact rfl) (by simp (disch := omega) only [go_sem, w64, wU] <;> exact rfl) ?_
        refine AW.cond (by simp (maxSteps := 1000000) only [go_sem] <;> exact rfl) (fun hc6 => ?_) (fun hc6 => ?_)
        · try simp only [decide_eq_true_eq, decide_eq_false_iff_not, Bool.or_eq_true, Bool.or_eq_false_iff, Bool.and_eq_true, Bool.and_eq_false_imp, Bool.not_eq_true', Bool.not_eq_false'] at hc6
          have h35 : op = 5 := hc6
          refine AW.skip ?_
          show AW _ _ _ _ _
          refine AW.condT (by simp (maxSteps := 1000000) only [go_sem, h35] <;> exact rfl) ?_
          refine AW.regR rfl (by simp (maxSteps := 1000000) only [go_sem, h35] <;> exact rfl) (by simp (disch := omega) only [go_sem, w64, wU, h35] <;> exact rfl) ?_
          refine AW.cond (by simp (maxSteps := 1000000) only [go_sem, h35] <;> exact rfl) (fun hc8 => ?_) (fun hc8 => ?_)
          · try simp only [decide_eq_true_eq, decide_eq_false_iff_not, Bool.or_eq_true, Bool.or_eq_false_iff, Bool.and_eq_true, Bool.and_eq_false_imp, Bool.not_eq_true', Bool.not_eq_false'] at hc8
            refine AW.regR rfl (by simp (maxSteps := 1000000) only [go_sem, h35] <;> exact rfl) (by simp (disch := omega) only [go_sem, w64, wU, h35] <;> exact rfl) ?_
            refine retK.fin rfl (by simp (maxSteps := 1000000) only [go_sem, h35] <;> exact rfl) (by simp (maxSteps := 1000000) only [go_sem, h35] <;> exact rfl) (.of ?_)
            obtain rfl : op = 5 := by assumption
            exact congrArg (PV.int .i64) (check_r hc1 (by rw [rest_5, if_pos (by assumption)]))
          · try simp only [decide_eq_true_eq, decide_eq_false_iff_not, Bool.or_eq_true, Bool.or_eq_false_iff, Bool.and_eq_true, Bool.and_eq_false_imp, Bool.not_eq_true', Bool.not_eq_false'] at hc8
            refine AW.skip ?_
            show AW _ _ _ _ _
            refine AW.regR rfl (by simp (maxSteps := 1000000) only [go_sem, h35] <;> exact rfl) (by simp (disch := omega) only [go_sem, w64, wU, h35] <;> exact rfl) ?_
            refine retK.fin rfl (by simp (maxSteps := 1000000) only [go_sem, h35] <;> exact rfl) (by simp (maxSteps := 1000000) only [go_sem, h35] <;> exact rfl) (.of ?_)
            obtain rfl : op = 5 := by assumption
            exact congrArg (PV.int .i64) (check_r hc1 (by rw [rest_5, if_neg (by omega)]))
        · try simp only [decide_eq_true_eq, decide_eq_false_iff_not, Bool.or_eq_true, Bool.or_eq_false_iff, Bool.and_eq_true, Bool.and_eq_false_imp, Bool.not_eq_true', Bool.not_eq_false'] at hc6
          refine AW.regR1 rfl (by simp (maxSteps := 1000000) only [go_sem] <;> exact rfl) (by simp (disch := omega) only [go_sem, w64, wU] <;> exact rfl) ?_
          show AW _ _ _ _ _
          refine AW.cond (by simp (maxSteps := 1000000) only [go_sem] <;> exact rfl) (fun hc9 => ?_) (fun hc9 => ?_)
          · try simp only [decide_eq_true_eq, decide_eq_false_iff_not, Bool.or_eq_true, Bool.or_eq_false_iff, Bool.and_eq_true, Bool.and_eq_false_imp, Bool.not_eq_true', Bool.not_eq_false'] at hc9
            refine AW.regR rfl (by simp (maxSteps := 1000000) only [go_sem] <;> exact rfl) (by simp (disch := omega) only [go_sem, w64, wU] <;> exact rfl) ?_
            refine AW.cond (by simp (maxSteps := 1000000) only [go_sem] <;> exact rfl) (fun hc10 => ?_) (fun hc10 => ?_)
            · try simp only [decide_eq_true_eq, decide_eq_false_iff_not, Bool.or_eq_true, Bool.or_eq_false_iff, Bool.and_eq_true, Bool.and_eq_false_imp, Bool.not_eq_true', Bool.not_eq_false'] at hc10
              refine AW.regR rfl (by simp (maxSteps := 1000000) only [go_sem] <;> exact rfl) (by simp (disch := omega) only [go_sem, w64, wU] <;> exact rfl) ?_
              refine retK.fin rfl (by simp (maxSteps := 1000000) only [go_sem] <;> exact rfl) (by simp (maxSteps := 1000000) only [go_sem] <;> exact rfl) (.of ?_)
              obtain rfl : op = 6 := by assumption
              exact congrArg (PV.int .i64) (check_r hc1 (by rw [rest_6, if_pos (by assumption)]))
            · try simp only [decide_eq_true_eq, decide_eq_false_iff_not, Bool.or_eq_true, Bool.or_eq_false_iff, Bool.and_eq_true, Bool.and_eq_false_imp, Bool.not_eq_true', Bool.not_eq_false'] at hc10
              refine AW.skip ?_
              show AW _ _ _ _ _
              refine AW.regR rfl (by simp (maxSteps := 1000000) only [go_sem] <;> exact rfl) (by simp (disch := omega) only [go_sem, w64, wU] <;> exact rfl) ?_
              refine retK.fin rfl (by simp (maxSteps := 1000000) only [go_sem] <;> exact rfl) (by simp (maxSteps := 1000000) only [go_sem] <;> exact rfl) (.of ?_)
              obtain rfl : op = 6 := by assumption
              exact congrArg (PV.int .i64) (check_r hc1 (by rw [rest_6, if_neg (by omega)]))
          · try simp only [decide_eq_true_eq, decide_eq_false_iff_not, Bool.or_eq_true, Bool.or_eq_false_iff, Bool.and_eq_true, Bool.and_eq_false_imp, Bool.not_eq_true', Bool.not_eq_false'] at hc9
            refine AW.regR rfl (by simp (maxSteps := 1000000) only [go_sem] <;> exact rfl) (by simp (disch := omega) only [go_sem, w64, wU] <;> exact rfl) ?_
            refine AW.cond (by simp (maxSteps := 1000000) only [go_sem] <;> exact rfl) (fun hc11 => ?_) (fun hc11 => ?_)
            · try simp only [decide_eq_true_eq, decide_eq_false_iff_not, Bool.or_eq_true, Bool.or_eq_false_iff, Bool.and_eq_true, Bool.and_eq_false_imp, Bool.not_eq_true', Bool.not_eq_false'] at hc11
              refine AW.seq ?_
              refine AW.regR rfl (by simp (maxSteps := 1000000) only [go_sem] <;> exact rfl) (by simp (disch := omega) only [go_sem, w64, wU] <;> exact rfl) ?_
              refine AW.cond (by simp (maxSteps := 1000000) only [go_sem] <;> exact rfl) (fun hc12 => ?_) (fun hc12 => ?_)
              · try simp only [decide_eq_true_eq, decide_eq_false_iff_not, Bool.or_eq_true, Bool.or_eq_false_iff, Bool.and_eq_true, Bool.and_eq_false_imp, Bool.not_eq_true', Bool.not_eq_false'] at hc12
                refine AW.regR rfl (by simp (maxSteps := 1000000) only [go_sem] <;> exact rfl) (by simp (disch := omega) only [go_sem, w64, wU] <;> exact rfl) ?_
                refine retK.fin rfl (by simp (maxSteps := 1000000) only [go_sem] <;> exact rfl) (by simp (maxSteps := 1000000) only [go_sem] <;> exact rfl) (.of ?_)
                obtain rfl : op = 9 := by assumption
                exact congrArg (PV.int .i64) (check_r hc1 (by rw [rest_9, if_pos (by omega)]))
              · try simp only [decide_eq_true_eq, decide_eq_false_iff_not, Bool.or_eq_true, Bool.or_eq_false_iff, Bool.and_eq_true, Bool.and_eq_false_imp, Bool.not_eq_true', Bool.not_eq_false'] at hc12
                refine AW.skip ?_
                show AW _ _ _ _ _
                refine AW.regR rfl (by simp (maxSteps := 1000000) only [go_sem] <;> exact rfl) (by simp (disch := omega) only [go_sem, w64, wU] <;> exact rfl) ?_
                refine AW.cond (by simp (maxSteps := 1000000) only [go_sem] <;> exact rfl) (fun hc13 => ?_) (fun hc13 => ?_)
                · try simp only [decide_eq_true_eq, decide_eq_false_iff_not, Bool.or_eq_true, Bool.or_eq_false_iff, Bool.and_eq_true, Bool.and_eq_false_imp, Bool.not_eq_true', Bool.not_eq_false'] at hc13
                  refine AW.regR rfl (by simp (maxSteps := 1000000) only [go_sem] <;> exact rfl) (by simp (disch := omega) only [go_sem, w64, wU] <;> exact rfl) ?_
                  refine retK.fin rfl (by simp (maxSteps := 1000000) only [go_sem] <;> exact rfl) (by simp (maxSteps := 1000000) only [go_sem] <;> exact rfl) (.of ?_)
                  obtain rfl : op = 9 := by assumption
                  exact congrArg (PV.int .i64) (check_r hc1 (by rw [rest_9, if_neg (by omega), if_pos (by omega)]))
                · try simp only [decide_eq_true_eq, decide_eq_false_iff_not, Bool.or_eq_true, Bool.or_eq_false_iff, Bool.and_eq_true, Bool.and_eq_false_imp, Bool.not_eq_true', Bool.not_eq_false'] at hc13
                  refine AW.skip ?_
                  show AW _ _ _ _ _
                  refine AW.regR rfl (by simp (maxSteps := 1000000) only [go_sem] <;> exact rfl) (by simp (disch := omega) only [go_sem, w64, wU] <;> exact rfl) ?_
                  refine retK.fin rfl (by simp (maxSteps := 1000000) only [go_sem] <;> exact rfl) (by simp (maxSteps := 1000000) only [go_sem] <;> exact rfl) (.of ?_)
                  obtain rfl : op = 9 := by assumption
                  exact congrArg (PV.int .i64) (check_r hc1 (by rw [rest_9, if_neg (by omega), if_neg (by omega)]))
            · try simp only [decide_eq_true_eq, decide_eq_false_iff_not, Bool.or_eq_true, Bool.or_eq_false_iff, Bool.and_eq_true, Bool.and_eq_false_imp, Bool.not_eq_true', Bool.not_eq_false'] at hc11
              refine AW.regR rfl (by simp (maxSteps := 1000000) only [go_sem] <;> exact rfl) (by simp (disch := omega) only [go_sem, w64, wU] <;> exact rfl) ?_
              refine AW.cond (by simp (maxSteps := 1000000) only [go_sem] <;> exact rfl) (fun hc14 => ?_) (fun hc14 => ?_)
              · try simp only [decide_eq_true_eq, decide_eq_false_iff_not, Bool.or_eq_true, Bool.or_eq_false_iff, Bool.and_eq_true, Bool.and_eq_false_imp, Bool.not_eq_true', Bool.not_eq_false'] at hc14
                refine AW.regR rfl (by simp (maxSteps := 1000000) only [go_sem] <;> exact rfl) (by simp (disch := omega) only [go_sem, w64, wU] <;> exact rfl) ?_
                refine AW.cond (by simp (maxSteps := 1000000) only [go_sem] <;> exact rfl) (fun hc15 => ?_) (fun hc15 => ?_)
                · try simp only [decide_eq_true_eq, decide_eq_false_iff_not, Bool.or_eq_true, Bool.or_eq_false_iff, Bool.and_eq_true, Bool.and_eq_false_imp, Bool.not_eq_true', Bool.not_eq_false'] at hc15
                  refine AW.regR rfl (by simp (maxSteps := 1000000) only [go_sem] <;> exact rfl) (by simp (disch := omega) only [go_sem, w64, wU] <;> exact rfl) ?_
                  refine retK.fin rfl (by simp (maxSteps := 1000000) only [go_sem] <;> exact rfl) (by simp (maxSteps := 1000000) only [go_sem] <;> exact rfl) (.of ?_)
                  obtain rfl : op = 15 := by assumption
                  exact congrArg (PV.int .i64) (check_r hc1 (by rw [rest_15, if_pos (by omega)]))
                · try simp only [decide_eq_true_eq, decide_eq_false_iff_not, Bool.or_eq_true, Bool.or_eq_false_iff, Bool.and_eq_true, Bool.and_eq_false_imp, Bool.not_eq_true', Bool.not_eq_false'] at hc15
                  refine AW.skip ?_
                  show AW _ _ _ _ _
                  refine AW.regR rfl (by simp (maxSteps := 1000000) only [go_sem] <;> exact rfl) (by simp (disch := omega) only [go_sem, w64, wU] <;> exact rfl) ?_
                  refine retK.fin rfl (by simp (maxSteps := 1000000) only [go_sem] <;> exact rfl) (by simp (maxSteps := 1000000) only [go_sem] <;> exact rfl) (.of ?_)
                  obtain rfl : op = 15 := by assumption
                  exact congrArg (PV.int .i64) (check_r hc1 (by rw [rest_15, if_neg (by omega)]))
              · try simp only [decide_eq_true_eq, decide_eq_false_iff_not, Bool.or_eq_true, Bool.or_eq_false_iff, Bool.and_eq_true, Bool.and_eq_false_imp, Bool.not_eq_true', Bool.not_eq_false'] at hc14
                refine AW.skip ?_
                show AW _ _ _ _ _
                refine AW.regR rfl (by simp (maxSteps := 1000000) only [go_sem] <;> exact rfl) (by simp (disch := omega) only [go_sem, w64, wU] <;> exact rfl) ?_
                refine retK.fin rfl (by simp (maxSteps := 1000000) only [go_sem] <;> exact rfl) (by simp (maxSteps := 1000000) only [go_sem] <;> exact rfl) (.of ?_)
                exact congrArg (PV.int .i64) (check_r hc1 (by rw [rest_no (by omega) (by omega) (by omega) (by omega) (by omega) (by omega)]))
theorem c68  : PC Try.prog 68 [] (.bool true) := by
  refine PC.start 36 Try.call68 Try.func68 rfl Try.ntmps68 Try.results68 (by simp only [go_sem]; exact rfl) fun z hz => ?_
  refine AW.regR rfl (by simp (maxSteps := 1000000) only [go_sem] <;> exact rfl) (by simp (disch := omega) only [go_sem, w64, wU] <;> exact rfl) ?_
  refine AW.regS rfl ?_
  refine ARN.run1 (by simp (maxSteps := 1000000) only [go_sem] <;> exact rfl) ?_
  refine ARN.pcall (fun hp => c69 5 0 0 0 3 0 3 ⟨by decide, by decide⟩) rfl (by simp (maxSteps := 1000000) only [go_sem] <;> exact rfl) (by simp only [go_sem]) (by simp (maxSteps := 1000000) only [go_sem] <;> exact rfl) ?_
  refine ARN.run1 (by simp (maxSteps := 1000000) only [go_sem] <;> exact rfl) ?_
  refine ARN.pcall (fun hp => c69 5 0 0 0 2 0 3 ⟨by decide, by decide⟩) rfl (by simp (maxSteps := 1000000) only [go_sem] <;> exact rfl) (by simp only [go_sem]) (by simp (maxSteps := 1000000) only [go_sem] <;> exact rfl) ?_
  refine ARN.run1 (by simp (maxSteps := 1000000) only [go_sem] <;> exact rfl) ?_
  refine ARN.pcall (fun hp => c69 9 0 0 0 0 1 3 ⟨by decide, by decide⟩) rfl (by simp (maxSteps := 1000000) only [go_sem] <;> exact rfl) (by simp only [go_sem]) (by simp (maxSteps := 1000000) only [go_sem] <;> exact rfl) ?_
  refine ARN.run1 (by simp (maxSteps := 1000000) only [go_sem] <;> exact rfl) ?_
  refine ARN.pcall (fun hp => c69 2 8 0 0 0 0 3 ⟨by decide, by decide⟩) rfl (by simp (maxSteps := 1000000) only [go_sem] <;> exact rfl) (by simp only [go_sem]) (by simp (maxSteps := 1000000) only [go_sem] <;> exact rfl) ?_
  refine ARN.run1 (by simp (maxSteps := 1000000) only [go_sem] <;> exact rfl) ?_
  refine ARN.pcall (fun hp => c69 12 8 0 0 0 0 3 ⟨by decide, by decide⟩) rfl (by simp (maxSteps := 1000000) only [go_sem] <;> exact rfl) (by simp only [go_sem]) (by simp (maxSteps := 1000000) only [go_sem] <;> exact rfl) ?_
  refine ARN.run1 (by simp (maxSteps := 1000000) only [go_sem] <;> exact rfl) ?_
  refine ARN.pcall (fun hp => c64 _) rfl (by simp (maxSteps := 1000000) only [go_sem] <;> exact rfl) (by simp only [go_sem]) (by simp (maxSteps := 1000000) only [go_sem] <;> exact rfl) ?_
  refine ARN.run1 (by simp (maxSteps := 1000000) only [go_sem] <;> exact rfl) ?_
  refine ARN.pcall (fun hp => c66 _) rfl (by simp (maxSteps := 1000000) only [go_sem] <;> exact rfl) (by simp only [go_sem]) (by simp (maxSteps := 1000000) only [go_sem] <;> exact rfl) ?_
  refine ARN.run1 (by simp (maxSteps := 1000000) only [go_sem] <;> exact rfl) ?_
  refine ARN.pcall (fun hp => c64 _) rfl (by simp (maxSteps := 1000000) only [go_sem] <;> exact rfl) (by simp only [go_sem]) (by simp (maxSteps := 1000000) only [go_sem] <;> exact rfl) ?_
  refine ARN.run1 (by simp (maxSteps := 1000000) only [go_sem] <;> exact rfl) ?_
  refine ARN.fin (by simp (disch := omega) only [go_sem, w64, wU] <;> exact rfl) ?_
  refine retK.fin rfl (by simp (maxSteps := 1000000) only [go_sem] <;> exact rfl) (by simp (maxSteps := 1000000) only [go_sem] <;> exact rfl) (.of ?_)
  exact congrArg PV.bool (by decide +kernel)
theorem c13 (op : Int) : PC Try.prog 13 [.int .i64 op] (.bool true) := by
  refine PC.start 18 Try.call13 Try.func13 rfl Try.ntmps13 Try.results13 (by simp only [go_sem]; exact rfl) fun z hz => ?_
  refine AW.regR rfl (by simp (maxSteps := 1000000) only [go_sem] <;> exact rfl) (by simp (disch := omega) only [go_sem, w64, wU] <;> exact rfl) ?_
  refine AW.regS rfl ?_
  refine ARN.run1 (by simp (maxSteps := 1000000) only [go_sem] <;> exact rfl) ?_
  refine ARN.pcall (fun hp => c64 _) rfl (by simp (maxSteps := 1000000) only [go_sem] <;> exact rfl) (by simp only [go_sem]) (by simp (maxSteps := 1000000) only [go_sem] <;> exact rfl) ?_
  refine ARN.run1 (by simp (maxSteps := 1000000) only [go_sem] <;> exact rfl) ?_
  refine ARN.pcall (fun hp => c65 _) rfl (by simp (maxSteps := 1000000) only [go_sem] <;> exact rfl) (by simp only [go_sem]) (by simp (maxSteps := 1000000) only [go_sem] <;> exact rfl) ?_
  refine ARN.run1 (by simp (maxSteps := 1000000) only [go_sem] <;> exact rfl) ?_
  refine ARN.pcall (fun hp => c66 _) rfl (by simp (maxSteps := 1000000) only [go_sem] <;> exact rfl) (by simp only [go_sem]) (by simp (maxSteps := 1000000) only [go_sem] <;> exact rfl) ?_
  refine ARN.run1 (by simp (maxSteps := 1000000) only [go_sem] <;> exact rfl) ?_
  refine ARN.pcall (fun hp => c67 _) rfl (by simp (maxSteps := 1000000) only [go_sem] <;> exact rfl) (by simp only [go_sem]) (by simp (maxSteps := 1000000) only [go_sem] <;> exact rfl) ?_
  refine ARN.run1 (by simp (maxSteps := 1000000) only [go_sem] <;> exact rfl) ?_
  refine ARN.pcall (fun hp => c68) rfl (by simp (maxSteps := 1000000) only [go_sem] <;> exact rfl) (by simp only [go_sem]) (by simp (maxSteps := 1000000) only [go_sem] <;> exact rfl) ?_
  refine ARN.run1 (by simp (maxSteps := 1000000) only [go_sem] <;> exact rfl) ?_
  refine ARN.fin (by simp (disch := omega) only [go_sem, w64, wU] <;> exact rfl) ?_
  refine retK.fin rfl (by simp (maxSteps := 1000000) only [go_sem] <;> exact rfl) (by simp (maxSteps := 1000000) only [go_sem] <;> exact rfl) (.of ?_)
  simp
theorem c14 (op a b c m : Int) (r n : Int) (hm : W64 m) : PC Try.prog 14 [.agg [.int .i64 op, .int .i64 a, .int .i64 b, .int .i64 c, .int .u64 m], .int .i64 r, .int .i64 n] (.bool true) := by
  refine PC.start 19 Try.call14 Try.func14 rfl Try.ntmps14 Try.results14 (by simp only [go_sem]; exact rfl) fun z hz => ?_
  refine AW.regR rfl (by simp (maxSteps := 1000000) only [go_sem] <;> exact rfl) (by simp (disch := omega) only [go_sem, w64, wU] <;> exact rfl) ?_
  refine AW.regDS follows (by kernel_rfl) ?_
  refine ARE.run1 (by simp (maxSteps := 1000000) only [go_sem] <;> exact rfl) ?_
  refine ARE.pcall (fun hp => c69 op a b c m r n hm) rfl (by simp (maxSteps := 1000000) only [go_sem] <;> exact rfl) (by simp only [go_sem]) (by simp (maxSteps := 1000000) only [go_sem] <;> exact rfl) ?_
  refine ARE.run1 (by simp (maxSteps := 1000000) only [go_sem] <;> exact rfl) ?_
  refine ARE.pcall (fun hp => c70 op a b c m r n hm) rfl (by simp (maxSteps := 1000000) only [go_sem] <;> exact rfl) (by simp only [go_sem]) (by simp (maxSteps := 1000000) only [go_sem] <;> exact rfl) ?_
  refine ARE.run1 (by simp (maxSteps := 1000000) only [go_sem] <;> exact rfl) ?_
  refine ARE.pcall (fun hp => c68) rfl (by simp (maxSteps := 1000000) only [go_sem] <;> exact rfl) (by simp only [go_sem]) (by simp (maxSteps := 1000000) only [go_sem] <;> exact rfl) ?_
  refine ARE.run1 (by simp (maxSteps := 1000000) only [go_sem] <;> exact rfl) ?_
  refine ARE.fin [0, 0, 0, 7, 0, 0, 0, 127, 255, 511, 1023, 2047, 4095] _ (by kernel_rfl) (by simp (maxSteps := 1000000) only [go_sem] <;> exact rfl) (by kernel_rfl) (by simp (disch := omega) only [go_sem, w64, wU] <;> exact rfl) ?_
  refine retK.fin rfl (by simp (maxSteps := 1000000) only [go_sem] <;> exact rfl) (by simp (maxSteps := 1000000) only [go_sem] <;> exact rfl) (.of ?_)
  simp
theorem c15 (op a b c m : Int) (r x y : Int) (hm : W64 m) (hx : 0 ≤ x ∧ x < 65536) (hy : 0 ≤ y ∧ y < 65536) : PC Try.prog 15 [.agg [.int .i64 op, .int .i64 a, .int .i64 b, .int .i64 c, .int .u64 m], .int .i64 r, .agg [.int .u16 x, .int .u16 y]] (.bool true) := by
  refine PC.start 44 Try.call15 Try.func15 rfl Try.ntmps15 Try.results15 (by simp only [go_sem]; exact rfl) fun z hz => ?_
  refine AW.regR rfl (by simp (maxSteps := 1000000) only [go_sem] <;> exact rfl) (by simp (disch := omega) only [go_sem, w64, wU] <;> exact rfl) ?_
  have hwx : IntKind.i64.wrap x = x := w64 (by omega) (by omega)
  have hwx2 : IntKind.i64.wrap x = x := hwx
  have hwy2 : IntKind.i64.wrap y = y := w64 (by omega) (by omega)
  refine AW.regR rfl (by simp (maxSteps := 1000000) only [go_sem, hwx2, hwy2] <;> exact rfl) (by simp (disch := omega) only [go_sem, w64, wU, hwx2, hwy2] <;> exact rfl) ?_
  refine AW.regR rfl (by simp (maxSteps := 1000000) only [go_sem, hwx2, hwy2] <;> exact rfl) (by simp (disch := omega) only [go_sem, w64, wU, hwx2, hwy2] <;> exact rfl) ?_
  refine AW.regS rfl ?_
  refine ARN.run1 (by simp (maxSteps := 1000000) only [go_sem, hwx2, hwy2] <;> exact rfl) ?_
  refine ARN.pcall (fun hp => c69 op a b c m _ _ hm) rfl (by simp (maxSteps := 1000000) only [go_sem, hwx2, hwy2] <;> exact rfl) (by simp only [go_sem]) (by simp (maxSteps := 1000000) only [go_sem, hwx2, hwy2] <;> exact rfl) ?_
  refine ARN.run1 (by simp (maxSteps := 1000000) only [go_sem, hwx2, hwy2] <;> exact rfl) ?_
  refine ARN.pcall (fun hp => c69 op a b c m _ _ hm) rfl (by simp (maxSteps := 1000000) only [go_sem, hwx2, hwy2] <;> exact rfl) (by simp only [go_sem]) (by simp (maxSteps := 1000000) only [go_sem, hwx2, hwy2] <;> exact rfl) ?_
  refine ARN.run1 (by simp (maxSteps := 1000000) only [go_sem, hwx2, hwy2] <;> exact rfl) ?_
  refine ARN.pcall (fun hp => c69 op a b c m _ _ hm) rfl (by simp (maxSteps := 1000000) only [go_sem, hwx2, hwy2] <;> exact rfl) (by simp only [go_sem]) (by simp (maxSteps := 1000000) only [go_sem, hwx2, hwy2] <;> exact rfl) ?_
  refine ARN.run1 (by simp (maxSteps := 1000000) only [go_sem, hwx2, hwy2] <;> exact rfl) ?_
  refine ARN.pcall (fun hp => c68) rfl (by simp (maxSteps := 1000000) only [go_sem, hwx2, hwy2] <;> exact rfl) (by simp only [go_sem]) (by simp (maxSteps := 1000000) only [go_sem, hwx2, hwy2] <;> exact rfl) ?_
  refine ARN.run1 (by simp (maxSteps := 1000000) only [go_sem, hwx2, hwy2] <;> exact rfl) ?_
  refine ARN.fin (by simp (disch := omega) only [go_sem, w64, wU, hwx2, hwy2] <;> exact rfl) ?_
  refine retK.fin rfl (by simp (maxSteps := 1000000) only [go_sem, hwx2, hwy2] <;> exact rfl) (by simp (maxSteps := 1000000) only [go_sem, hwx2, hwy2] <;> exact rfl) (.of ?_)
  by_cases h0 : checkE op a b c m r (if y < x then y else x) = 0
  · obtain ⟨h1, h2⟩ := check_longer (k := if x < y then y else x) h0 (by split <;> omega) (by split <;> split <;> omega) (by split <;> omega); simp [h0, h1, h2]
  · simp [h0]
end Go.Ab.Try
