/- Programs as bytes: the law of reading. -/
import Derived.Test.YthaapgbkjocilaaImL
namespace Go.Ab.Try
open Go.Proofs Go.Ab
set_option linter.unusedVariables false
set_option linter.unusedSimpArgs false
set_option linter.unnecessarySimpa false
set_option maxRecDepth 100000
theorem c4 (l : List Int) (ok : OkB l) : PC Try.prog 4 [.str (strOf l)] (.bool true) := by
  refine PC.start 52 Try.call4 Try.func4 rfl Try.ntmps4 Try.results4 (by simp only [go_sem]; exact rfl) fun z hz => ?_
  refine AW.regR rfl (by simp (maxSteps := 1000000) only [go_sem, beq_self_eq_true, Bool.and_self, decide_true] <;> exact rfl) (by first | (simp (disch := omega) only [go_sem, w64, wU, beq_self_eq_true, Bool.and_self, decide_true] <;> exact rfl) | exact rfl) ?_
  refine AW.seq ?_
  refine AW.regR rfl (by simp (maxSteps := 1000000) only [go_sem, beq_self_eq_true, Bool.and_self, decide_true] <;> exact rfl) (by first | (simp (disch := omega) only [go_sem, w64, wU, beq_self_eq_true, Bool.and_self, decide_true] <;> exact rfl) | exact rfl) ?_
  refine AW.cond (by simp (maxSteps := 1000000) only [go_sem, beq_self_eq_true, Bool.and_self, decide_true] <;> exact rfl) (fun hc1 => ?_) (fun hc1 => ?_)
  · try simp only [decide_eq_true_eq, decide_eq_false_iff_not, Bool.or_eq_true, Bool.or_eq_false_iff, Bool.and_eq_true, Bool.and_eq_false_imp, Bool.not_eq_true', Bool.not_eq_false'] at hc1
    refine AW.regS rfl ?_
    refine ARN.pcall (fun hp => c7) rfl (by simp (maxSteps := 1000000) only [go_sem, beq_self_eq_true, Bool.and_self, decide_true] <;> exact rfl) (by simp only [go_sem]) (by simp (maxSteps := 1000000) only [go_sem, beq_self_eq_true, Bool.and_self, decide_true] <;> exact rfl) ?_
    refine ARN.run1 (by simp (maxSteps := 1000000) only [go_sem, beq_self_eq_true, Bool.and_self, decide_true] <;> exact rfl) ?_
    refine ARN.fin (by first | (simp (disch := omega) only [go_sem, w64, wU, beq_self_eq_true, Bool.and_self, decide_true] <;> exact rfl) | exact rfl) ?_
    refine retK.fin rfl (by simp (maxSteps := 1000000) only [go_sem, beq_self_eq_true, Bool.and_self, decide_true] <;> exact rfl) (by simp (maxSteps := 1000000) only [go_sem, beq_self_eq_true, Bool.and_self, decide_true] <;> exact rfl) (.of ?_)
    rfl
  · try simp only [decide_eq_true_eq, decide_eq_false_iff_not, Bool.or_eq_true, Bool.or_eq_false_iff, Bool.and_eq_true, Bool.and_eq_false_imp, Bool.not_eq_true', Bool.not_eq_false'] at hc1
    refine AW.skip ?_
    show AW _ _ _ _ _
    obtain ⟨hR, hS⟩ := read_ok ok
    obtain ⟨⟨rp, re⟩, hr⟩ : ∃ r, r = readL l := ⟨_, rfl⟩
    rw [← hr] at hR hS
    refine AW.regS rfl ?_
    refine ARN.run1 (by simp (maxSteps := 1000000) only [go_sem, beq_self_eq_true, Bool.and_self, decide_true] <;> exact rfl) ?_
    refine ARN.pcall (fun hp => (by have := c12 l ok (by omega); rw [← hr] at this; exact this)) rfl (by simp (maxSteps := 1000000) only [go_sem, beq_self_eq_true, Bool.and_self, decide_true] <;> exact rfl) (by simp only [go_sem]) (by simp (maxSteps := 1000000) only [go_sem, beq_self_eq_true, Bool.and_self, decide_true] <;> exact rfl) ?_
    refine ARN.run1 (by simp (maxSteps := 1000000) only [go_sem, beq_self_eq_true, Bool.and_self, decide_true] <;> exact rfl) ?_
    refine ARN.fin (by first | (simp (disch := omega) only [go_sem, w64, wU, beq_self_eq_true, Bool.and_self, decide_true] <;> exact rfl) | exact rfl) ?_
    refine AW.regS rfl ?_
    refine ARN.run1 (by simp (maxSteps := 1000000) only [go_sem, beq_self_eq_true, Bool.and_self, decide_true] <;> exact rfl) ?_
    refine ARN.pcall (fun hp => (by have := c13 l ok (by omega); rw [← hr] at this; exact this)) rfl (by simp (maxSteps := 1000000) only [go_sem, beq_self_eq_true, Bool.and_self, decide_true] <;> exact rfl) (by simp only [go_sem]) (by simp (maxSteps := 1000000) only [go_sem, beq_self_eq_true, Bool.and_self, decide_true] <;> exact rfl) ?_
    refine ARN.run1 (by simp (maxSteps := 1000000) only [go_sem, beq_self_eq_true, Bool.and_self, decide_true] <;> exact rfl) ?_
    refine ARN.fin (by first | (simp (disch := omega) only [go_sem, w64, wU, beq_self_eq_true, Bool.and_self, decide_true] <;> exact rfl) | exact rfl) ?_
    refine AW.regS rfl ?_
    refine ARN.run1 (by simp (maxSteps := 1000000) only [go_sem, beq_self_eq_true, Bool.and_self, decide_true] <;> exact rfl) ?_
    refine ARN.pcall (fun hp => c8 rp hS) rfl (by simp (maxSteps := 1000000) only [go_sem, beq_self_eq_true, Bool.and_self, decide_true] <;> exact rfl) (by simp only [go_sem]) (by simp (maxSteps := 1000000) only [go_sem, beq_self_eq_true, Bool.and_self, decide_true] <;> exact rfl) ?_
    refine ARN.run1 (by simp (maxSteps := 1000000) only [go_sem, beq_self_eq_true, Bool.and_self, decide_true] <;> exact rfl) ?_
    refine ARN.fin (by first | (simp (disch := omega) only [go_sem, w64, wU, beq_self_eq_true, Bool.and_self, decide_true] <;> exact rfl) | exact rfl) ?_
    refine AW.regS rfl ?_
    refine ARN.run1 (by simp (maxSteps := 1000000) only [go_sem, beq_self_eq_true, Bool.and_self, decide_true] <;> exact rfl) ?_
    refine ARN.pcall (fun hp => c11 rp rp hS hS) rfl (by simp (maxSteps := 1000000) only [go_sem, beq_self_eq_true, Bool.and_self, decide_true] <;> exact rfl) (by simp only [go_sem]) (by simp (maxSteps := 1000000) only [go_sem, beq_self_eq_true, Bool.and_self, decide_true] <;> exact rfl) ?_
    refine ARN.run1 (by simp (maxSteps := 1000000) only [go_sem, beq_self_eq_true, Bool.and_self, decide_true] <;> exact rfl) ?_
    refine ARN.pcall (fun hp => c7) rfl (by simp (maxSteps := 1000000) only [go_sem, beq_self_eq_true, Bool.and_self, decide_true] <;> exact rfl) (by simp only [go_sem]) (by simp (maxSteps := 1000000) only [go_sem, beq_self_eq_true, Bool.and_self, decide_true] <;> exact rfl) ?_
    refine ARN.run1 (by simp (maxSteps := 1000000) only [go_sem, beq_self_eq_true, Bool.and_self, decide_true] <;> exact rfl) ?_
    refine ARN.fin (by first | (simp (disch := omega) only [go_sem, w64, wU, beq_self_eq_true, Bool.and_self, decide_true] <;> exact rfl) | exact rfl) ?_
    refine retK.fin rfl (by simp (maxSteps := 1000000) only [go_sem, beq_self_eq_true, Bool.and_self, decide_true] <;> exact rfl) (by simp (maxSteps := 1000000) only [go_sem, beq_self_eq_true, Bool.and_self, decide_true] <;> exact rfl) (.of ?_)
    have key : (!decide (re = 0) || decide (putE rp = 0) && decide (putS rp = strOf l)) = true := hR.elim (fun q => by obtain ⟨_, q2, q3, q4, _⟩ := q; have q5 := put_0 q3 q4; rw [q5.1, q5.2, ← show l = putL rp from q2]; simp) (fun q => by simp [show ¬ re = 0 from q])
    exact congrArg PV.bool key
end Go.Ab.Try
