/- Programs as bytes: the law of there and back. -/
import Derived.Test.YthaapgbkjocilaaImL
namespace Go.Ab.Try
open Go.Proofs Go.Ab
set_option linter.unusedVariables false
set_option linter.unusedSimpArgs false
set_option linter.unnecessarySimpa false
set_option maxRecDepth 100000
theorem c5 (p : Pg) (more : Int) (wp : OkPg p) (hm : 0 ≤ more ∧ more < 256) : PC Try.prog 5 [pgV p, .int .u8 more] (.bool true) := by
  refine PC.start 73 Try.call5 Try.func5 rfl Try.ntmps5 Try.results5 (by simp only [go_sem]; exact rfl) fun z hz => ?_
  refine AW.regR rfl (by simp (maxSteps := 1000000) only [go_sem, beq_self_eq_true, Bool.and_self, decide_true] <;> exact rfl) (by first | (simp (disch := omega) only [go_sem, w64, wU, beq_self_eq_true, Bool.and_self, decide_true] <;> exact rfl) | exact rfl) ?_
  refine AW.seq ?_
  refine AW.regS rfl ?_
  refine ARN.run1 (by simp (maxSteps := 1000000) only [go_sem, beq_self_eq_true, Bool.and_self, decide_true] <;> exact rfl) ?_
  refine ARN.pcall (fun hp => c6 p) rfl (by simp (maxSteps := 1000000) only [go_sem, beq_self_eq_true, Bool.and_self, decide_true] <;> exact rfl) (by simp only [go_sem]) (by simp (maxSteps := 1000000) only [go_sem, beq_self_eq_true, Bool.and_self, decide_true] <;> exact rfl) ?_
  refine ARN.run1 (by simp (maxSteps := 1000000) only [go_sem, beq_self_eq_true, Bool.and_self, decide_true] <;> exact rfl) ?_
  refine ARN.fin (by first | (simp (disch := omega) only [go_sem, w64, wU, beq_self_eq_true, Bool.and_self, decide_true] <;> exact rfl) | exact rfl) ?_
  refine AW.cond (by simp (maxSteps := 1000000) only [go_sem, beq_self_eq_true, Bool.and_self, decide_true] <;> exact rfl) (fun hc1 => ?_) (fun hc1 => ?_)
  · try simp only [decide_eq_true_eq, decide_eq_false_iff_not, Bool.or_eq_true, Bool.or_eq_false_iff, Bool.and_eq_true, Bool.and_eq_false_imp, Bool.not_eq_true', Bool.not_eq_false'] at hc1
    refine AW.regS rfl ?_
    refine ARN.pcall (fun hp => c7) rfl (by simp (maxSteps := 1000000) only [go_sem, beq_self_eq_true, Bool.and_self, decide_true] <;> exact rfl) (by simp only [go_sem]) (by simp (maxSteps := 1000000) only [go_sem, beq_self_eq_true, Bool.and_self, decide_true] <;> exact rfl) ?_
    refine ARN.run1 (by simp (maxSteps := 1000000) only [go_sem, beq_self_eq_true, Bool.and_self, decide_true] <;> exact rfl) ?_
    refine ARN.fin (by first | (simp (disch := omega) only [go_sem, w64, wU, beq_self_eq_true, Bool.and_self, decide_true] <;> exact rfl) | exact rfl) ?_
    refine retK.fin rfl (by simp (maxSteps := 1000000) only [go_sem, beq_self_eq_true, Bool.and_self, decide_true] <;> exact rfl) (by simp (maxSteps := 1000000) only [go_sem, beq_self_eq_true, Bool.and_self, decide_true] <;> exact rfl) (.of ?_)
    rfl
  · try simp only [decide_eq_true_eq, decide_eq_false_iff_not, Bool.or_eq_true, Bool.or_eq_false_iff, Bool.and_eq_true, Bool.and_eq_false_imp, Bool.not_eq_true', Bool.not_eq_false'] at hc1
    have fp : few p := few_of hc1
    refine AW.skip ?_
    show AW _ _ _ _ _
    refine AW.regS rfl ?_
    refine ARN.run1 (by simp (maxSteps := 1000000) only [go_sem, beq_self_eq_true, Bool.and_self, decide_true, fp] <;> exact rfl) ?_
    refine ARN.pcall (fun hp => c8 p (few_sm fp)) rfl (by simp (maxSteps := 1000000) only [go_sem, beq_self_eq_true, Bool.and_self, decide_true, fp] <;> exact rfl) (by simp only [go_sem]) (by simp (maxSteps := 1000000) only [go_sem, beq_self_eq_true, Bool.and_self, decide_true, fp] <;> exact rfl) ?_
    refine ARN.run1 (by simp (maxSteps := 1000000) only [go_sem, beq_self_eq_true, Bool.and_self, decide_true, fp] <;> exact rfl) ?_
    refine ARN.fin (by first | (simp (disch := omega) only [go_sem, w64, wU, beq_self_eq_true, Bool.and_self, decide_true, fp] <;> exact rfl) | exact rfl) ?_
    refine AW.seq ?_
    refine AW.regR rfl (by simp (maxSteps := 1000000) only [go_sem, beq_self_eq_true, Bool.and_self, decide_true, fp] <;> exact rfl) (by first | (simp (disch := omega) only [go_sem, w64, wU, beq_self_eq_true, Bool.and_self, decide_true, fp] <;> exact rfl) | exact rfl) ?_
    refine AW.cond (by simp (maxSteps := 1000000) only [go_sem, beq_self_eq_true, Bool.and_self, decide_true, fp] <;> exact rfl) (fun hc2 => ?_) (fun hc2 => ?_)
    · try simp only [decide_eq_true_eq, decide_eq_false_iff_not, Bool.or_eq_true, Bool.or_eq_false_iff, Bool.and_eq_true, Bool.and_eq_false_imp, Bool.not_eq_true', Bool.not_eq_false'] at hc2
      refine AW.regS rfl ?_
      refine ARN.run1 (by simp (maxSteps := 1000000) only [go_sem, beq_self_eq_true, Bool.and_self, decide_true, fp] <;> exact rfl) ?_
      refine ARN.pcall (fun hp => c7) rfl (by simp (maxSteps := 1000000) only [go_sem, beq_self_eq_true, Bool.and_self, decide_true, fp] <;> exact rfl) (by simp only [go_sem]) (by simp (maxSteps := 1000000) only [go_sem, beq_self_eq_true, Bool.and_self, decide_true, fp] <;> exact rfl) ?_
      refine ARN.run1 (by simp (maxSteps := 1000000) only [go_sem, beq_self_eq_true, Bool.and_self, decide_true, fp] <;> exact rfl) ?_
      refine ARN.fin (by first | (simp (disch := omega) only [go_sem, w64, wU, beq_self_eq_true, Bool.and_self, decide_true, fp] <;> exact rfl) | exact rfl) ?_
      refine retK.fin rfl (by simp (maxSteps := 1000000) only [go_sem, beq_self_eq_true, Bool.and_self, decide_true, fp] <;> exact rfl) (by simp (maxSteps := 1000000) only [go_sem, beq_self_eq_true, Bool.and_self, decide_true, fp] <;> exact rfl) (.of ?_)
      exact congrArg PV.bool (by simp [putS, hc2])
    · try simp only [decide_eq_true_eq, decide_eq_false_iff_not, Bool.or_eq_true, Bool.or_eq_false_iff, Bool.and_eq_true, Bool.and_eq_false_imp, Bool.not_eq_true', Bool.not_eq_false'] at hc2
      have hE := putE_0.1 hc2
      have hS : putS p = strOf (putL p) := (put_0 hE.1 hE.2).1
      have hL := put_len hE.1
      have hO := put_ok hE.1 hE.2
      refine AW.skip ?_
      show AW _ _ _ _ _
      refine AW.seq ?_
      refine AW.regR rfl (by simp (maxSteps := 1000000) only [go_sem, beq_self_eq_true, Bool.and_self, decide_true, fp, hE, hS, hL, hO] <;> exact rfl) (by first | (simp (disch := omega) only [go_sem, w64, wU, beq_self_eq_true, Bool.and_self, decide_true, fp, hE, hS, hL, hO] <;> exact rfl) | exact rfl) ?_
      refine AW.cond (by simp (maxSteps := 1000000) only [go_sem, beq_self_eq_true, Bool.and_self, decide_true, fp, hE, hS, hL, hO] <;> exact rfl) (fun hc3 => ?_) (fun hc3 => ?_)
      · try simp only [decide_eq_true_eq, decide_eq_false_iff_not, Bool.or_eq_true, Bool.or_eq_false_iff, Bool.and_eq_true, Bool.and_eq_false_imp, Bool.not_eq_true', Bool.not_eq_false'] at hc3
        exfalso; omega
      · try simp only [decide_eq_true_eq, decide_eq_false_iff_not, Bool.or_eq_true, Bool.or_eq_false_iff, Bool.and_eq_true, Bool.and_eq_false_imp, Bool.not_eq_true', Bool.not_eq_false'] at hc3
        have hby : bytesA [[PV.int .u8 more]] = some [more] := rfl
        have hq1 : IntKind.i64.wrap (((putL p).length : Int) - 1) = ((putL p).length : Int) - 1 := w64 (by omega) (by omega)
        have hq2 : (((putL p).length : Int) - 1).toNat = (putL p).length - 1 := by omega
        have hq3 : (0 ≤ ((putL p).length : Int) - 1) = True := eq_true (by omega)
        have hq4 : (((putL p).length : Int) - 1 ≤ ((putL p).length : Int)) = True := eq_true (by omega)
        have hq5 : ((putL p).length + 1 ≤ 9223372036854775807) = True := eq_true (by omega)
        have hq6 : ((putL p).length ≤ 9223372036854775806) = True := eq_true (by omega)
        refine AW.skip ?_
        show AW _ _ _ _ _
        refine AW.regS rfl ?_
        refine ARN.run1 (by simp (maxSteps := 1000000) only [go_sem, beq_self_eq_true, Bool.and_self, decide_true, fp, hE, hS, hL, hO, hby, hq1, hq2, hq3, hq4, hq5, hq6] <;> exact rfl) ?_
        refine ARN.pcall (fun hp => (by have := c12 (putL p) hO (by omega); rw [back_same wp] at this; exact this)) rfl (by simp (maxSteps := 1000000) only [go_sem, beq_self_eq_true, Bool.and_self, decide_true, fp, hE, hS, hL, hO, hby, hq1, hq2, hq3, hq4, hq5, hq6] <;> exact rfl) (by simp only [go_sem]) (by simp (maxSteps := 1000000) only [go_sem, beq_self_eq_true, Bool.and_self, decide_true, fp, hE, hS, hL, hO, hby, hq1, hq2, hq3, hq4, hq5, hq6] <;> exact rfl) ?_
        refine ARN.run1 (by simp (maxSteps := 1000000) only [go_sem, beq_self_eq_true, Bool.and_self, decide_true, fp, hE, hS, hL, hO, hby, hq1, hq2, hq3, hq4, hq5, hq6] <;> exact rfl) ?_
        refine ARN.fin (by first | (simp (disch := omega) only [go_sem, w64, wU, beq_self_eq_true, Bool.and_self, decide_true, fp, hE, hS, hL, hO, hby, hq1, hq2, hq3, hq4, hq5, hq6] <;> exact rfl) | exact rfl) ?_
        refine AW.regS rfl ?_
        refine ARN.run1 (by simp (maxSteps := 1000000) only [go_sem, beq_self_eq_true, Bool.and_self, decide_true, fp, hE, hS, hL, hO, hby, hq1, hq2, hq3, hq4, hq5, hq6] <;> exact rfl) ?_
        refine ARN.pcall (fun hp => (by have := c12 ((putL p).take ((putL p).length - 1)) (hO.take _) (by simp; omega); rw [back_less wp hL.1] at this; exact this)) rfl (by simp (maxSteps := 1000000) only [go_sem, beq_self_eq_true, Bool.and_self, decide_true, fp, hE, hS, hL, hO, hby, hq1, hq2, hq3, hq4, hq5, hq6] <;> exact rfl) (by simp only [go_sem]) (by simp (maxSteps := 1000000) only [go_sem, beq_self_eq_true, Bool.and_self, decide_true, fp, hE, hS, hL, hO, hby, hq1, hq2, hq3, hq4, hq5, hq6] <;> exact rfl) ?_
        refine ARN.run1 (by simp (maxSteps := 1000000) only [go_sem, beq_self_eq_true, Bool.and_self, decide_true, fp, hE, hS, hL, hO, hby, hq1, hq2, hq3, hq4, hq5, hq6] <;> exact rfl) ?_
        refine ARN.fin (by first | (simp (disch := omega) only [go_sem, w64, wU, beq_self_eq_true, Bool.and_self, decide_true, fp, hE, hS, hL, hO, hby, hq1, hq2, hq3, hq4, hq5, hq6] <;> exact rfl) | exact rfl) ?_
        refine AW.regS rfl ?_
        refine ARN.run1 (by simp (maxSteps := 1000000) only [go_sem, beq_self_eq_true, Bool.and_self, decide_true, fp, hE, hS, hL, hO, hby, hq1, hq2, hq3, hq4, hq5, hq6] <;> exact rfl) ?_
        refine ARN.pcall (fun hp => (by have := c12 (putL p ++ [more]) (hO.app (fun x hx => by rw [List.mem_singleton.1 hx]; exact hm)) (by simp; omega); rw [back_more wp] at this; exact this)) rfl (by simp (maxSteps := 1000000) only [go_sem, beq_self_eq_true, Bool.and_self, decide_true, fp, hE, hS, hL, hO, hby, hq1, hq2, hq3, hq4, hq5, hq6] <;> exact rfl) (by simp only [go_sem]) (by simp (maxSteps := 1000000) only [go_sem, beq_self_eq_true, Bool.and_self, decide_true, fp, hE, hS, hL, hO, hby, hq1, hq2, hq3, hq4, hq5, hq6] <;> exact rfl) ?_
        refine ARN.run1 (by simp (maxSteps := 1000000) only [go_sem, beq_self_eq_true, Bool.and_self, decide_true, fp, hE, hS, hL, hO, hby, hq1, hq2, hq3, hq4, hq5, hq6] <;> exact rfl) ?_
        refine ARN.fin (by first | (simp (disch := omega) only [go_sem, w64, wU, beq_self_eq_true, Bool.and_self, decide_true, fp, hE, hS, hL, hO, hby, hq1, hq2, hq3, hq4, hq5, hq6] <;> exact rfl) | exact rfl) ?_
        refine AW.regS rfl ?_
        refine ARN.run1 (by simp (maxSteps := 1000000) only [go_sem, beq_self_eq_true, Bool.and_self, decide_true, fp, hE, hS, hL, hO, hby, hq1, hq2, hq3, hq4, hq5, hq6] <;> exact rfl) ?_
        refine ARN.pcall (fun hp => c11 p p (few_sm fp) (few_sm fp)) rfl (by simp (maxSteps := 1000000) only [go_sem, beq_self_eq_true, Bool.and_self, decide_true, fp, hE, hS, hL, hO, hby, hq1, hq2, hq3, hq4, hq5, hq6] <;> exact rfl) (by simp only [go_sem]) (by simp (maxSteps := 1000000) only [go_sem, beq_self_eq_true, Bool.and_self, decide_true, fp, hE, hS, hL, hO, hby, hq1, hq2, hq3, hq4, hq5, hq6] <;> exact rfl) ?_
        refine ARN.run1 (by simp (maxSteps := 1000000) only [go_sem, beq_self_eq_true, Bool.and_self, decide_true, fp, hE, hS, hL, hO, hby, hq1, hq2, hq3, hq4, hq5, hq6] <;> exact rfl) ?_
        refine ARN.pcall (fun hp => c7) rfl (by simp (maxSteps := 1000000) only [go_sem, beq_self_eq_true, Bool.and_self, decide_true, fp, hE, hS, hL, hO, hby, hq1, hq2, hq3, hq4, hq5, hq6] <;> exact rfl) (by simp only [go_sem]) (by simp (maxSteps := 1000000) only [go_sem, beq_self_eq_true, Bool.and_self, decide_true, fp, hE, hS, hL, hO, hby, hq1, hq2, hq3, hq4, hq5, hq6] <;> exact rfl) ?_
        refine ARN.run1 (by simp (maxSteps := 1000000) only [go_sem, beq_self_eq_true, Bool.and_self, decide_true, fp, hE, hS, hL, hO, hby, hq1, hq2, hq3, hq4, hq5, hq6] <;> exact rfl) ?_
        refine ARN.fin (by first | (simp (disch := omega) only [go_sem, w64, wU, beq_self_eq_true, Bool.and_self, decide_true, fp, hE, hS, hL, hO, hby, hq1, hq2, hq3, hq4, hq5, hq6] <;> exact rfl) | exact rfl) ?_
        refine retK.fin rfl (by simp (maxSteps := 1000000) only [go_sem, beq_self_eq_true, Bool.and_self, decide_true, fp, hE, hS, hL, hO, hby, hq1, hq2, hq3, hq4, hq5, hq6] <;> exact rfl) (by simp (maxSteps := 1000000) only [go_sem, beq_self_eq_true, Bool.and_self, decide_true, fp, hE, hS, hL, hO, hby, hq1, hq2, hq3, hq4, hq5, hq6] <;> exact rfl) (.of ?_)
        exact congrArg PV.bool (by simp [short])
end Go.Ab.Try
