/- Programs as bytes: the law of putting. -/
import Derived.Test.YthaapgbkjocilaaImL
namespace Go.Ab.Try
open Go.Proofs Go.Ab
set_option linter.unusedVariables false
set_option linter.unusedSimpArgs false
set_option linter.unnecessarySimpa false
set_option maxRecDepth 100000
theorem c3 (p q : Pg) (wp : OkPg p) (wq : OkPg q) : PC Try.prog 3 [pgV p, pgV q] (.bool true) := by
  refine PC.start 48 Try.call3 Try.func3 rfl Try.ntmps3 Try.results3 (by simp only [go_sem]; exact rfl) fun z hz => ?_
  refine AW.regR rfl (by simp (maxSteps := 1000000) only [go_sem, beq_self_eq_true, Bool.and_self, decide_true] <;> exact rfl) (by first | (simp (disch := omega) only [go_sem, w64, wU, beq_self_eq_true, Bool.and_self, decide_true] <;> exact rfl) | exact rfl) ?_
  refine AW.seq ?_
  refine AW.regS rfl ?_
  refine ARN.run1 (by simp (maxSteps := 1000000) only [go_sem, beq_self_eq_true, Bool.and_self, decide_true] <;> exact rfl) ?_
  refine ARN.pcall (fun hp => c6 p) rfl (by simp (maxSteps := 1000000) only [go_sem, beq_self_eq_true, Bool.and_self, decide_true] <;> exact rfl) (by simp only [go_sem]) (by simp (maxSteps := 1000000) only [go_sem, beq_self_eq_true, Bool.and_self, decide_true] <;> exact rfl) ?_
  refine ARN.run1 (by simp (maxSteps := 1000000) only [go_sem, beq_self_eq_true, Bool.and_self, decide_true] <;> exact rfl) ?_
  refine ARN.pcall (fun hp => c6 q) rfl (by simp (maxSteps := 1000000) only [go_sem, beq_self_eq_true, Bool.and_self, decide_true] <;> exact rfl) (by simp only [go_sem]) (by simp (maxSteps := 1000000) only [go_sem, beq_self_eq_true, Bool.and_self, decide_true] <;> exact rfl) ?_
  refine ARN.run1 (by simp (maxSteps := 1000000) only [go_sem, beq_self_eq_true, Bool.and_self, decide_true] <;> exact rfl) ?_
  refine ARN.fin (by first | (simp (disch := omega) only [go_sem, w64, wU, beq_self_eq_true, Bool.and_self, decide_true] <;> exact rfl) | exact rfl) ?_
  refine AW.cond (by simp (maxSteps := 1000000) only [go_sem, beq_self_eq_true, Bool.and_self, decide_true] <;> exact rfl) (fun hc1 => ?_) (fun hc1 => ?_)
  · try simp only [decide_eq_true_eq, decide_eq_false_iff_not, Bool.or_eq_true, Bool.or_eq_false_iff, Bool.and_eq_true, Bool.and_eq_false_imp, Bool.not_eq_true', Bool.not_eq_false'] at hc1
    refine AW.regS rfl ?_
    refine ARN.pcall (fun hp => c7) rfl (by simp (maxSteps := 1000000) only [go_sem, beq_self_eq_true, Bool.and_self, decide_true] <;> exact rfl) (by simp only [go_sem]) (by simp (maxSteps := 1000000) only [go_sem, beq_self_eq_true, Bool.and_self, decide_true] <;> exact rfl) ?_
    refine ARN.run1 (by simp (maxSteps := 1000000) only [go_sem, beq_self_eq_true, Bool.and_self, decide_true] <;> exact rfl) ?_
    refine ARN.fin (by first | (simp (disch := omega) only [go_sem, w64, wU, beq_self_eq_true, Bool.and_self, decide_true] <;> exact rfl) | exact rfl) ?_
    refine retK.fin rfl (by simp (maxSteps := 1000000) only [go_sem, beq_self_eq_true, Bool.and_self, decide_true] <;> exact rfl) (by simp (maxSteps := 1000000) only [go_sem, beq_self_eq_true, Bool.and_self, decide_true] <;> exact rfl) (.of ?_)
    rfl
  · try simp only [decide_eq_true_eq, decide_eq_false_iff_not, Bool.or_eq_true, Bool.or_eq_false_iff, Bool.and_eq_true, Bool.and_eq_false_imp, Bool.not_eq_true', Bool.not_eq_false'] at hc1
    have fp : few p := few_of hc1.1
    have fq : few q := few_of hc1.2
    refine AW.skip ?_
    show AW _ _ _ _ _
    refine AW.regS rfl ?_
    refine ARN.run1 (by simp (maxSteps := 1000000) only [go_sem, beq_self_eq_true, Bool.and_self, decide_true, fp, fq] <;> exact rfl) ?_
    refine ARN.pcall (fun hp => c8 p (few_sm fp)) rfl (by simp (maxSteps := 1000000) only [go_sem, beq_self_eq_true, Bool.and_self, decide_true, fp, fq] <;> exact rfl) (by simp only [go_sem]) (by simp (maxSteps := 1000000) only [go_sem, beq_self_eq_true, Bool.and_self, decide_true, fp, fq] <;> exact rfl) ?_
    refine ARN.run1 (by simp (maxSteps := 1000000) only [go_sem, beq_self_eq_true, Bool.and_self, decide_true, fp, fq] <;> exact rfl) ?_
    refine ARN.fin (by first | (simp (disch := omega) only [go_sem, w64, wU, beq_self_eq_true, Bool.and_self, decide_true, fp, fq] <;> exact rfl) | exact rfl) ?_
    refine AW.regS rfl ?_
    refine ARN.run1 (by simp (maxSteps := 1000000) only [go_sem, beq_self_eq_true, Bool.and_self, decide_true, fp, fq] <;> exact rfl) ?_
    refine ARN.pcall (fun hp => c9 p (few_sm fp)) rfl (by simp (maxSteps := 1000000) only [go_sem, beq_self_eq_true, Bool.and_self, decide_true, fp, fq] <;> exact rfl) (by simp only [go_sem]) (by simp (maxSteps := 1000000) only [go_sem, beq_self_eq_true, Bool.and_self, decide_true, fp, fq] <;> exact rfl) ?_
    refine ARN.run1 (by simp (maxSteps := 1000000) only [go_sem, beq_self_eq_true, Bool.and_self, decide_true, fp, fq] <;> exact rfl) ?_
    refine ARN.fin (by first | (simp (disch := omega) only [go_sem, w64, wU, beq_self_eq_true, Bool.and_self, decide_true, fp, fq] <;> exact rfl) | exact rfl) ?_
    refine AW.regDS follows (by kernel_rfl) ?_
    refine ARE.run1 (by simp (maxSteps := 1000000) only [go_sem, beq_self_eq_true, Bool.and_self, decide_true, fp, fq] <;> exact rfl) ?_
    refine ARE.pcall (fun hp => c10 p q (few_sm fp) (few_sm fq)) rfl (by simp (maxSteps := 1000000) only [go_sem, beq_self_eq_true, Bool.and_self, decide_true, fp, fq] <;> exact rfl) (by simp only [go_sem]) (by simp (maxSteps := 1000000) only [go_sem, beq_self_eq_true, Bool.and_self, decide_true, fp, fq] <;> exact rfl) ?_
    refine ARE.run1 (by simp (maxSteps := 1000000) only [go_sem, beq_self_eq_true, Bool.and_self, decide_true, fp, fq] <;> exact rfl) ?_
    refine ARE.pcall (fun hp => c11 p q (few_sm fp) (few_sm fq)) rfl (by simp (maxSteps := 1000000) only [go_sem, beq_self_eq_true, Bool.and_self, decide_true, fp, fq] <;> exact rfl) (by simp only [go_sem]) (by simp (maxSteps := 1000000) only [go_sem, beq_self_eq_true, Bool.and_self, decide_true, fp, fq] <;> exact rfl) ?_
    refine ARE.run1 (by simp (maxSteps := 1000000) only [go_sem, beq_self_eq_true, Bool.and_self, decide_true, fp, fq] <;> exact rfl) ?_
    refine ARE.pcall (fun hp => c7) rfl (by simp (maxSteps := 1000000) only [go_sem, beq_self_eq_true, Bool.and_self, decide_true, fp, fq] <;> exact rfl) (by simp only [go_sem]) (by simp (maxSteps := 1000000) only [go_sem, beq_self_eq_true, Bool.and_self, decide_true, fp, fq] <;> exact rfl) ?_
    refine ARE.run1 (by simp (maxSteps := 1000000) only [go_sem, beq_self_eq_true, Bool.and_self, decide_true, fp, fq] <;> exact rfl) ?_
    refine ARE.fin [0, 0, 3, 7, 15, 15, 63, 127, 255, 511, 511, 2047, 511, 511, 16383, 32767, 65535, 131071, 262143, 524287, 1048575] _ (by kernel_rfl) (by simp (maxSteps := 1000000) only [go_sem, beq_self_eq_true, Bool.and_self, decide_true, fp, fq] <;> exact rfl) (by kernel_rfl) (by first | (simp (disch := omega) only [go_sem, w64, wU, beq_self_eq_true, Bool.and_self, decide_true, fp, fq] <;> exact rfl) | exact rfl) ?_
    refine retK.fin rfl (by simp (maxSteps := 1000000) only [go_sem, beq_self_eq_true, Bool.and_self, decide_true, fp, fq] <;> exact rfl) (by simp (maxSteps := 1000000) only [go_sem, beq_self_eq_true, Bool.and_self, decide_true, fp, fq] <;> exact rfl) (.of ?_)
    exact congrArg PV.bool (by simp)
end Go.Ab.Try
