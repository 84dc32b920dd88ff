/- Bounds as bytes and back, each with what it returns. -/
import Derived.Test.YtknlgjeeenkleaaBdF
namespace Go.Ab.Try
open Go.Proofs Go.Ab
set_option linter.unusedVariables false
set_option linter.unusedSimpArgs false
set_option maxRecDepth 100000
theorem c94 (n : Int) (h : 0 ≤ n ∧ n ≤ 4294967295) : PC Try.prog 94 [.int .i64 n] (.str (strOf (four n))) := by
  refine PC.start 7 Try.call94 Try.func94 rfl Try.ntmps94 Try.results94 (by simp only [go_sem]; exact rfl) fun z hz => ?_
  refine AW.regR rfl (by simp (maxSteps := 1000000) only [go_sem] <;> exact rfl) (by simp (disch := omega) only [go_sem, w64, wU] <;> exact rfl) ?_
  refine AW.regS rfl ?_
  refine ARN.run1 (by simp (maxSteps := 1000000) only [go_sem] <;> exact rfl) ?_
  refine ARN.pcall (fun hp => c113 _) rfl (by simp (maxSteps := 1000000) only [go_sem] <;> exact rfl) (by simp only [go_sem]) (by simp (maxSteps := 1000000) only [go_sem] <;> exact rfl) ?_
  refine ARN.run1 (by simp (maxSteps := 1000000) only [go_sem] <;> exact rfl) ?_
  refine ARN.fin (by simp (disch := omega) only [go_sem, w64, wU] <;> exact rfl) ?_
  refine retK.fin rfl (by simp (maxSteps := 1000000) only [go_sem] <;> exact rfl) (by simp (maxSteps := 1000000) only [go_sem] <;> exact rfl) (.of ?_)
  simp only [four]
theorem c26 (a b c d e f g h : Int) : PC Try.prog 26 [.agg [.int .i64 a, .int .i64 b, .int .i64 c, .int .i64 d, .int .i64 e, .int .i64 f, .int .i64 g, .int .i64 h]] (.tup [.str (putS a b c d e f g h), .int .i64 (chk a b c d e f g h)]) := by
  refine PC.start 44 Try.call26 Try.func26 rfl Try.ntmps26 Try.results26 (by simp only [go_sem]; exact rfl) fun z hz => ?_
  refine AW.regR rfl (by simp (maxSteps := 1000000) only [go_sem] <;> exact rfl) (by simp (disch := omega) only [go_sem, w64, wU] <;> exact rfl) ?_
  refine AW.seq ?_
  refine AW.regS rfl ?_
  refine ARN.run1 (by simp (maxSteps := 1000000) only [go_sem] <;> exact rfl) ?_
  refine ARN.pcall (fun hp => c28 a b c d e f g h) rfl (by simp (maxSteps := 1000000) only [go_sem] <;> exact rfl) (by simp only [go_sem]) (by simp (maxSteps := 1000000) only [go_sem] <;> exact rfl) ?_
  refine ARN.run1 (by simp (maxSteps := 1000000) only [go_sem] <;> exact rfl) ?_
  refine ARN.fin (by simp (disch := omega) only [go_sem, w64, wU] <;> exact rfl) ?_
  refine AW.regR rfl (by simp (maxSteps := 1000000) only [go_sem] <;> exact rfl) (by simp (disch := omega) only [go_sem, w64, wU] <;> exact rfl) ?_
  refine AW.cond (by simp (maxSteps := 1000000) only [go_sem] <;> exact rfl) (fun hc1 => ?_) (fun hc1 => ?_)
  · try simp only [decide_eq_true_eq, decide_eq_false_iff_not, Bool.or_eq_true, Bool.or_eq_false_iff, Bool.and_eq_true, Bool.and_eq_false_imp, Bool.not_eq_true', Bool.not_eq_false'] at hc1
    refine AW.regR rfl (by simp (maxSteps := 1000000) only [go_sem] <;> exact rfl) (by simp (disch := omega) only [go_sem, w64, wU] <;> exact rfl) ?_
    refine retK.fin rfl (by simp (maxSteps := 1000000) only [go_sem] <;> exact rfl) (by simp (maxSteps := 1000000) only [go_sem] <;> exact rfl) (.of ?_)
    rw [putS_no (fun hk => hc1 (chk_ok hk))]
  · try simp only [decide_eq_true_eq, decide_eq_false_iff_not, Bool.or_eq_true, Bool.or_eq_false_iff, Bool.and_eq_true, Bool.and_eq_false_imp, Bool.not_eq_true', Bool.not_eq_false'] at hc1
    refine AW.skip ?_
    show AW _ _ _ _ _
    have hk := ok_of hc1
    have hk2 := hk; unfold ok8 at hk2
    refine AW.regDS follows (by kernel_rfl) ?_
    refine ARE.run1 (by simp (maxSteps := 1000000) only [go_sem] <;> exact rfl) ?_
    refine ARE.pcall (fun hp => c94 a (by omega)) rfl (by simp (maxSteps := 1000000) only [go_sem] <;> exact rfl) (by simp only [go_sem]) (by simp (maxSteps := 1000000) only [go_sem] <;> exact rfl) ?_
    refine ARE.run1 (by simp (maxSteps := 1000000) only [go_sem] <;> exact rfl) ?_
    refine ARE.pcall (fun hp => c94 b (by omega)) rfl (by simp (maxSteps := 1000000) only [go_sem] <;> exact rfl) (by simp only [go_sem]) (by simp (maxSteps := 1000000) only [go_sem] <;> exact rfl) ?_
    refine ARE.run1 (by simp (maxSteps := 1000000) only [go_sem] <;> exact rfl) ?_
    refine ARE.pcall (fun hp => c94 c (by omega)) rfl (by simp (maxSteps := 1000000) only [go_sem] <;> exact rfl) (by simp only [go_sem]) (by simp (maxSteps := 1000000) only [go_sem] <;> exact rfl) ?_
    refine ARE.run1 (by simp (maxSteps := 1000000) only [go_sem] <;> exact rfl) ?_
    refine ARE.pcall (fun hp => c94 d (by omega)) rfl (by simp (maxSteps := 1000000) only [go_sem] <;> exact rfl) (by simp only [go_sem]) (by simp (maxSteps := 1000000) only [go_sem] <;> exact rfl) ?_
    refine ARE.run1 (by simp (maxSteps := 1000000) only [go_sem] <;> exact rfl) ?_
    refine ARE.pcall (fun hp => c94 e (by omega)) rfl (by simp (maxSteps := 1000000) only [go_sem] <;> exact rfl) (by simp only [go_sem]) (by simp (maxSteps := 1000000) only [go_sem] <;> exact rfl) ?_
    refine ARE.run1 (by simp (maxSteps := 1000000) only [go_sem] <;> exact rfl) ?_
    refine ARE.pcall (fun hp => c94 f (by omega)) rfl (by simp (maxSteps := 1000000) only [go_sem] <;> exact rfl) (by simp only [go_sem]) (by simp (maxSteps := 1000000) only [go_sem] <;> exact rfl) ?_
    refine ARE.run1 (by simp (maxSteps := 1000000) only [go_sem] <;> exact rfl) ?_
    refine ARE.pcall (fun hp => c94 g (by omega)) rfl (by simp (maxSteps := 1000000) only [go_sem] <;> exact rfl) (by simp only [go_sem]) (by simp (maxSteps := 1000000) only [go_sem] <;> exact rfl) ?_
    refine ARE.run1 (by simp (maxSteps := 1000000) only [go_sem] <;> exact rfl) ?_
    refine ARE.pcall (fun hp => c94 h (by omega)) rfl (by simp (maxSteps := 1000000) only [go_sem] <;> exact rfl) (by simp only [go_sem]) (by simp (maxSteps := 1000000) only [go_sem] <;> exact rfl) ?_
    refine ARE.run1 (by simp (maxSteps := 1000000) only [go_sem] <;> exact rfl) ?_
    refine ARE.fin [0, 1, 3, 7, 0, 16, 48, 127, 255, 0, 512, 1536, 3839, 8191, 0, 16384, 57087, 131071, 0, 262144, 909055, 2097151, 0, 4194304, 14540543, 33554431, 0, 67108864, 232644351, 536870911, 0, 1073741824, 3722305279, 8589934591, 17179869183, 34359738367] _ (by kernel_rfl) (by simp (maxSteps := 1000000) only [go_sem] <;> exact rfl) (by kernel_rfl) (by simp (disch := omega) only [go_sem, w64, wU] <;> exact rfl) ?_
    refine retK.fin rfl (by simp (maxSteps := 1000000) only [go_sem] <;> exact rfl) (by simp (maxSteps := 1000000) only [go_sem] <;> exact rfl) (.of ?_)
    rw [putS_ok hk, hc1]; simp only [flat, four, List.cons_append, List.nil_append]
theorem c25 (a b c d e f g h : Int) : PC Try.prog 25 [.agg [.int .i64 a, .int .i64 b, .int .i64 c, .int .i64 d, .int .i64 e, .int .i64 f, .int .i64 g, .int .i64 h]] (.tup [.str (putS a b c d e f g h), .int .i64 (chk a b c d e f g h)]) := by
  refine PC.start 35 Try.call25 Try.func25 rfl Try.ntmps25 Try.results25 (by simp only [go_sem]; exact rfl) fun z hz => ?_
  refine AW.regR rfl (by simp (maxSteps := 1000000) only [go_sem] <;> exact rfl) (by simp (disch := omega) only [go_sem, w64, wU] <;> exact rfl) ?_
  refine AW.seq ?_
  refine AW.regS rfl ?_
  refine ARN.run1 (by simp (maxSteps := 1000000) only [go_sem] <;> exact rfl) ?_
  refine ARN.pcall (fun hp => c27 a b c d e f g h) rfl (by simp (maxSteps := 1000000) only [go_sem] <;> exact rfl) (by simp only [go_sem]) (by simp (maxSteps := 1000000) only [go_sem] <;> exact rfl) ?_
  refine ARN.run1 (by simp (maxSteps := 1000000) only [go_sem] <;> exact rfl) ?_
  refine ARN.fin (by simp (disch := omega) only [go_sem, w64, wU] <;> exact rfl) ?_
  refine AW.regR rfl (by simp (maxSteps := 1000000) only [go_sem] <;> exact rfl) (by simp (disch := omega) only [go_sem, w64, wU] <;> exact rfl) ?_
  refine AW.cond (by simp (maxSteps := 1000000) only [go_sem] <;> exact rfl) (fun hc1 => ?_) (fun hc1 => ?_)
  · try simp only [decide_eq_true_eq, decide_eq_false_iff_not, Bool.or_eq_true, Bool.or_eq_false_iff, Bool.and_eq_true, Bool.and_eq_false_imp, Bool.not_eq_true', Bool.not_eq_false'] at hc1
    refine AW.regR rfl (by simp (maxSteps := 1000000) only [go_sem] <;> exact rfl) (by simp (disch := omega) only [go_sem, w64, wU] <;> exact rfl) ?_
    refine retK.fin rfl (by simp (maxSteps := 1000000) only [go_sem] <;> exact rfl) (by simp (maxSteps := 1000000) only [go_sem] <;> exact rfl) (.of ?_)
    rw [putS_no (fun hk => hc1 (chk_ok hk))]
  · try simp only [decide_eq_true_eq, decide_eq_false_iff_not, Bool.or_eq_true, Bool.or_eq_false_iff, Bool.and_eq_true, Bool.and_eq_false_imp, Bool.not_eq_true', Bool.not_eq_false'] at hc1
    refine AW.skip ?_
    show AW _ _ _ _ _
    refine AW.regR rfl (by simp (maxSteps := 1000000) only [go_sem] <;> exact rfl) (by simp (disch := omega) only [go_sem, w64, wU] <;> exact rfl) ?_
    refine AW.seq ?_
    refine AW.regS rfl ?_
    refine ARN.run1 (by simp (maxSteps := 1000000) only [go_sem] <;> exact rfl) ?_
    refine ARN.pcall (fun hp => c93 a b c d e f g h) rfl (by simp (maxSteps := 1000000) only [go_sem] <;> exact rfl) (by simp only [go_sem]) (by simp (maxSteps := 1000000) only [go_sem] <;> exact rfl) ?_
    refine ARN.run1 (by simp (maxSteps := 1000000) only [go_sem] <;> exact rfl) ?_
    refine ARN.fin (by simp (disch := omega) only [go_sem, w64, wU] <;> exact rfl) ?_
    refine AW.block ?_
    refine AW.rounds 9 ?_
    refine ARounds.mk ?_
    refine AW.regR rfl (by simp (maxSteps := 1000000) only [go_sem] <;> exact rfl) (by simp (disch := omega) only [go_sem, w64, wU] <;> exact rfl) ?_
    refine AW.seq ?_
    refine AW.condT (by simp (maxSteps := 1000000) only [go_sem] <;> exact rfl) ?_
    refine AW.skip ?_
    show AW _ _ _ _ _
    refine AW.seq ?_
    refine AW.block ?_
    refine AW.regR rfl (by simp (maxSteps := 1000000) only [go_sem] <;> exact rfl) (by simp (disch := omega) only [go_sem, w64, wU] <;> exact rfl) ?_
    refine AW.regR rfl (by simp (maxSteps := 1000000) only [go_sem] <;> exact rfl) (by simp (disch := omega) only [go_sem, w64, wU] <;> exact rfl) ?_
    refine AW.block ?_
    refine AW.rounds 5 ?_
    refine ARounds.mk ?_
    refine AW.regR rfl (by simp (maxSteps := 1000000) only [go_sem] <;> exact rfl) (by simp (disch := omega) only [go_sem, w64, wU] <;> exact rfl) ?_
    refine AW.seq ?_
    refine AW.condT (by simp (maxSteps := 1000000) only [go_sem] <;> exact rfl) ?_
    refine AW.skip ?_
    show AW _ _ _ _ _
    refine AW.seq ?_
    refine AW.block ?_
    refine AW.regR rfl (by simp (maxSteps := 1000000) only [go_sem] <;> exact rfl) (by simp (disch := omega) only [go_sem, w64, wU] <;> exact rfl) ?_
    refine AW.regR1 rfl (by simp (maxSteps := 1000000) only [go_sem] <;> exact rfl) (by simp (disch := omega) only [go_sem, w64, wU] <;> exact rfl) ?_
    show AW _ _ _ _ _
    refine AW.regR1 rfl (by simp (maxSteps := 1000000) only [go_sem] <;> exact rfl) (by simp (disch := omega) only [go_sem, w64, wU] <;> exact rfl) ?_
    show ARounds _ _ _ _ _ _
    refine ARounds.mk ?_
    refine AW.regR rfl (by simp (maxSteps := 1000000) only [go_sem] <;> exact rfl) (by simp (disch := omega) only [go_sem, w64, wU] <;> exact rfl) ?_
    refine AW.seq ?_
    refine AW.condT (by simp (maxSteps := 1000000) only [go_sem] <;> exact rfl) ?_
    refine AW.skip ?_
    show AW _ _ _ _ _
    refine AW.seq ?_
    refine AW.block ?_
    refine AW.regR rfl (by simp (maxSteps := 1000000) only [go_sem] <;> exact rfl) (by simp (disch := omega) only [go_sem, w64, wU] <;> exact rfl) ?_
    refine AW.regR1 rfl (by simp (maxSteps := 1000000) only [go_sem] <;> exact rfl) (by simp (disch := omega) only [go_sem, w64, wU] <;> exact rfl) ?_
    show AW _ _ _ _ _
    refine AW.regR1 rfl (by simp (maxSteps := 1000000) only [go_sem] <;> exact rfl) (by simp (disch := omega) only [go_sem, w64, wU] <;> exact rfl) ?_
    show ARounds _ _ _ _ _ _
    refine ARounds.mk ?_
    refine AW.regR rfl (by simp (maxSteps := 1000000) only [go_sem] <;> exact rfl) (by simp (disch := omega) only [go_sem, w64, wU] <;> exact rfl) ?_
    refine AW.seq ?_
    refine AW.condT (by simp (maxSteps := 1000000) only [go_sem] <;> exact rfl) ?_
    refine AW.skip ?_
    show AW _ _ _ _ _
    refine AW.seq ?_
    refine AW.block ?_
    refine AW.regR rfl (by simp (maxSteps := 1000000) only [go_sem] <;> exact rfl) (by simp (disch := omega) only [go_sem, w64, wU] <;> exact rfl) ?_
    refine AW.regR1 rfl (by simp (maxSteps := 1000000) only [go_sem] <;> exact rfl) (by simp (disch := omega) only [go_sem, w64, wU] <;> exact rfl) ?_
    show AW _ _ _ _ _
    refine AW.regR1 rfl (by simp (maxSteps := 1000000) only [go_sem] <;> exact rfl) (by simp (disch := omega) only [go_sem, w64, wU] <;> exact rfl) ?_
    show ARounds _ _ _ _ _ _
    refine ARounds.mk ?_
    refine AW.regR rfl (by simp (maxSteps := 1000000) only [go_sem] <;> exact rfl) (by simp (disch := omega) only [go_sem, w64, wU] <;> exact rfl) ?_
    refine AW.seq ?_
    refine AW.condT (by simp (maxSteps := 1000000) only [go_sem] <;> exact rfl) ?_
    refine AW.skip ?_
    show AW _ _ _ _ _
    refine AW.seq ?_
    refine AW.block ?_
    refine AW.regR rfl (by simp (maxSteps := 1000000) only [go_sem] <;> exact rfl) (by simp (disch := omega) only [go_sem, w64, wU] <;> exact rfl) ?_
    refine AW.regR1 rfl (by simp (maxSteps := 1000000) only [go_sem] <;> exact rfl) (by simp (disch := omega) only [go_sem, w64, wU] <;> exact rfl) ?_
    show AW _ _ _ _ _
    refine AW.regR1 rfl (by simp (maxSteps := 1000000) only [go_sem] <;> exact rfl) (by simp (disch := omega) only [go_sem, w64, wU] <;> exact rfl) ?_
    show ARounds _ _ _ _ _ _
    refine ARounds.mk ?_
    refine AW.regR rfl (by simp (maxSteps := 1000000) only [go_sem] <;> exact rfl) (by simp (disch := omega) only [go_sem, w64, wU] <;> exact rfl) ?_
    refine AW.seq ?_
    refine AW.condF (by simp (maxSteps := 1000000) only [go_sem] <;> exact rfl) ?_
    refine AW.exit ?_
    show AW _ _ _ _ _
    refine AW.regR1 rfl (by simp (maxSteps := 1000000) only [go_sem] <;> exact rfl) (by simp (disch := omega) only [go_sem, w64, wU] <;> exact rfl) ?_
    show ARounds _ _ _ _ _ _
    refine ARounds.mk ?_
    refine AW.regR rfl (by simp (maxSteps := 1000000) only [go_sem] <;> exact rfl) (by simp (disch := omega) only [go_sem, w64, wU] <;> exact rfl) ?_
    refine AW.seq ?_
    refine AW.condT (by simp (maxSteps := 1000000) only [go_sem] <;> exact rfl) ?_
    refine AW.skip ?_
    show AW _ _ _ _ _
    refine AW.seq ?_
    refine AW.block ?_
    refine AW.regR rfl (by simp (maxSteps := 1000000) only [go_sem] <;> exact rfl) (by simp (disch := omega) only [go_sem, w64, wU] <;> exact rfl) ?_
    refine AW.regR rfl (by simp (maxSteps := 1000000) only [go_sem] <;> exact rfl) (by simp (disch := omega) only [go_sem, w64, wU] <;> exact rfl) ?_
    refine AW.block ?_
    refine AW.rounds 5 ?_
    refine ARounds.mk ?_
    refine AW.regR rfl (by simp (maxSteps := 1000000) only [go_sem] <;> exact rfl) (by simp (disch := omega) only [go_sem, w64, wU] <;> exact rfl) ?_
    refine AW.seq ?_
    refine AW.condT (by simp (maxSteps := 1000000) only [go_sem] <;> exact rfl) ?_
    refine AW.skip ?_
    show AW _ _ _ _ _
    refine AW.seq ?_
    refine AW.block ?_
    refine AW.regR rfl (by simp (maxSteps := 1000000) only [go_sem] <;> exact rfl) (by simp (disch := omega) only [go_sem, w64, wU] <;> exact rfl) ?_
    refine AW.regR1 rfl (by simp (maxSteps := 1000000) only [go_sem] <;> exact rfl) (by simp (disch := omega) only [go_sem, w64, wU] <;> exact rfl) ?_
    show AW _ _ _ _ _
    refine AW.regR1 rfl (by simp (maxSteps := 1000000) only [go_sem] <;> exact rfl) (by simp (disch := omega) only [go_sem, w64, wU] <;> exact rfl) ?_
    show ARounds _ _ _ _ _ _
    refine ARounds.mk ?_
    refine AW.regR rfl (by simp (maxSteps := 1000000) only [go_sem] <;> exact rfl) (by simp (disch := omega) only [go_sem, w64, wU] <;> exact rfl) ?_
    refine AW.seq ?_
    refine AW.condT (by simp (maxSteps := 1000000) only [go_sem] <;> exact rfl) ?_
    refine AW.skip ?_
    show AW _ _ _ _ _
    refine AW.seq ?_
    refine AW.block ?_
    refine AW.regR rfl (by simp (maxSteps := 1000000) only [go_sem] <;> exact rfl) (by simp (disch := omega) only [go_sem, w64, wU] <;> exact rfl) ?_
    refine AW.regR1 rfl (by simp (maxSteps := 1000000) only [go_sem] <;> exact rfl) (by simp (disch := omega) only [go_sem, w64, wU] <;> exact rfl) ?_
    show AW _ _ _ _ _
    refine AW.regR1 rfl (by simp (maxSteps := 1000000) only [go_sem] <;> exact rfl) (by simp (disch := omega) only [go_sem, w64, wU] <;> exact rfl) ?_
    show ARounds _ _ _ _ _ _
    refine ARounds.mk ?_
    refine AW.regR rfl (by simp (maxSteps := 1000000) only [go_sem] <;> exact rfl) (by simp (disch := omega) only [go_sem, w64, wU] <;> exact rfl) ?_
    refine AW.seq ?_
    refine AW.condT (by simp (maxSteps := 1000000) only [go_sem] <;> exact rfl) ?_
    refine AW.skip ?_
    show AW _ _ _ _ _
    refine AW.seq ?_
    refine AW.block ?_
    refine AW.regR rfl (by simp (maxSteps := 1000000) only [go_sem] <;> exact rfl) (by simp (disch := omega) only [go_sem, w64, wU] <;> exact rfl) ?_
    refine AW.regR1 rfl (by simp (maxSteps := 1000000) only [go_sem] <;> exact rfl) (by simp (disch := omega) only [go_sem, w64, wU] <;> exact rfl) ?_
    show AW _ _ _ _ _
    refine AW.regR1 rfl (by simp (maxSteps := 1000000) only [go_sem] <;> exact rfl) (by simp (disch := omega) only [go_sem, w64, wU] <;> exact rfl) ?_
    show ARounds _ _ _ _ _ _
    refine ARounds.mk ?_
    refine AW.regR rfl (by simp (maxSteps := 1000000) only [go_sem] <;> exact rfl) (by simp (disch := omega) only [go_sem, w64, wU] <;> exact rfl) ?_
    refine AW.seq ?_
    refine AW.condT (by simp (maxSteps := 1000000) only [go_sem] <;> exact rfl) ?_
    refine AW.skip ?_
    show AW _ _ _ _ _
    refine AW.seq ?_
    refine AW.block ?_
    refine AW.regR rfl (by simp (maxSteps := 1000000) only [go_sem] <;> exact rfl) (by simp (disch := omega) only [go_sem, w64, wU] <;> exact rfl) ?_
    refine AW.regR1 rfl (by simp (maxSteps := 1000000) only [go_sem] <;> exact rfl) (by simp (disch := omega) only [go_sem, w64, wU] <;> exact rfl) ?_
    show AW _ _ _ _ _
    refine AW.regR1 rfl (by simp (maxSteps := 1000000) only [go_sem] <;> exact rfl) (by simp (disch := omega) only [go_sem, w64, wU] <;> exact rfl) ?_
    show ARounds _ _ _ _ _ _
    refine ARounds.mk ?_
    refine AW.regR rfl (by simp (maxSteps := 1000000) only [go_sem] <;> exact rfl) (by simp (disch := omega) only [go_sem, w64, wU] <;> exact rfl) ?_
    refine AW.seq ?_
    refine AW.condF (by simp (maxSteps := 1000000) only [go_sem] <;> exact rfl) ?_
    refine AW.exit ?_
    show AW _ _ _ _ _
    refine AW.regR1 rfl (by simp (maxSteps := 1000000) only [go_sem] <;> exact rfl) (by simp (disch := omega) only [go_sem, w64, wU] <;> exact rfl) ?_
    show ARounds _ _ _ _ _ _
    refine ARounds.mk ?_
    refine AW.regR rfl (by simp (maxSteps := 1000000) only [go_sem] <;> exact rfl) (by simp (disch := omega) only [go_sem, w64, wU] <;> exact rfl) ?_
    refine AW.seq ?_
    refine AW.condT (by simp (maxSteps := 1000000) only [go_sem] <;> exact rfl) ?_
    refine AW.skip ?_
    show AW _ _ _ _ _
    refine AW.seq ?_
    refine AW.block ?_
    refine AW.regR rfl (by simp (maxSteps := 1000000) only [go_sem] <;> exact rfl) (by simp (disch := omega) only [go_sem, w64, wU] <;> exact rfl) ?_
    refine AW.regR rfl (by simp (maxSteps := 1000000) only [go_sem] <;> exact rfl) (by simp (disch := omega) only [go_sem, w64, wU] <;> exact rfl) ?_
    refine AW.block ?_
    refine AW.rounds 5 ?_
    refine ARounds.mk ?_
    refine AW.regR rfl (by simp (maxSteps := 1000000) only [go_sem] <;> exact rfl) (by simp (disch := omega) only [go_sem, w64, wU] <;> exact rfl) ?_
    refine AW.seq ?_
    refine AW.condT (by simp (maxSteps := 1000000) only [go_sem] <;> exact rfl) ?_
    refine AW.skip ?_
    show AW _ _ _ _ _
    refine AW.seq ?_
    refine AW.block ?_
    refine AW.regR rfl (by simp (maxSteps := 1000000) only [go_sem] <;> exact rfl) (by simp (disch := omega) only [go_sem, w64, wU] <;> exact rfl) ?_
    refine AW.regR1 rfl (by simp (maxSteps := 1000000) only [go_sem] <;> exact rfl) (by simp (disch := omega) only [go_sem, w64, wU] <;> exact rfl) ?_
    show AW _ _ _ _ _
    refine AW.regR1 rfl (by simp (maxSteps := 1000000) only [go_sem] <;> exact rfl) (by simp (disch := omega) only [go_sem, w64, wU] <;> exact rfl) ?_
    show ARounds _ _ _ _ _ _
    refine ARounds.mk ?_
    refine AW.regR rfl (by simp (maxSteps := 1000000) only [go_sem] <;> exact rfl) (by simp (disch := omega) only [go_sem, w64, wU] <;> exact rfl) ?_
    refine AW.seq ?_
    refine AW.condT (by simp (maxSteps := 1000000) only [go_sem] <;> exact rfl) ?_
    refine AW.skip ?_
    show AW _ _ _ _ _
    refine AW.seq ?_
    refine AW.block ?_
    refine AW.regR rfl (by simp (maxSteps := 1000000) only [go_sem] <;> exact rfl) (by simp (disch := omega) only [go_sem, w64, wU] <;> exact rfl) ?_
    refine AW.regR1 rfl (by simp (maxSteps := 1000000) only [go_sem] <;> exact rfl) (by simp (disch := omega) only [go_sem, w64, wU] <;> exact rfl) ?_
    show AW _ _ _ _ _
    refine AW.regR1 rfl (by simp (maxSteps := 1000000) only [go_sem] <;> exact rfl) (by simp (disch := omega) only [go_sem, w64, wU] <;> exact rfl) ?_
    show ARounds _ _ _ _ _ _
    refine ARounds.mk ?_
    refine AW.regR rfl (by simp (maxSteps := 1000000) only [go_sem] <;> exact rfl) (by simp (disch := omega) only [go_sem, w64, wU] <;> exact rfl) ?_
    refine AW.seq ?_
    refine AW.condT (by simp (maxSteps := 1000000) only [go_sem] <;> exact rfl) ?_
    refine AW.skip ?_
    show AW _ _ _ _ _
    refine AW.seq ?_
    refine AW.block ?_
    refine AW.regR rfl (by simp (maxSteps := 1000000) only [go_sem] <;> exact rfl) (by simp (disch := omega) only [go_sem, w64, wU] <;> exact rfl) ?_
    refine AW.regR1 rfl (by simp (maxSteps := 1000000) only [go_sem] <;> exact rfl) (by simp (disch := omega) only [go_sem, w64, wU] <;> exact rfl) ?_
    show AW _ _ _ _ _
    refine AW.regR1 rfl (by simp (maxSteps := 1000000) only [go_sem] <;> exact rfl) (by simp (disch := omega) only [go_sem, w64, wU] <;> exact rfl) ?_
    show ARounds _ _ _ _ _ _
    refine ARounds.mk ?_
    refine AW.regR rfl (by simp (maxSteps := 1000000) only [go_sem] <;> exact rfl) (by simp (disch := omega) only [go_sem, w64, wU] <;> exact rfl) ?_
    refine AW.seq ?_
    refine AW.condT (by simp (maxSteps := 1000000) only [go_sem] <;> exact rfl) ?_
    refine AW.skip ?_
    show AW _ _ _ _ _
    refine AW.seq ?_
    refine AW.block ?_
    refine AW.regR rfl (by simp (maxSteps := 1000000) only [go_sem] <;> exact rfl) (by simp (disch := omega) only [go_sem, w64, wU] <;> exact rfl) ?_
    refine AW.regR1 rfl (by simp (maxSteps := 1000000) only [go_sem] <;> exact rfl) (by simp (disch := omega) only [go_sem, w64, wU] <;> exact rfl) ?_
    show AW _ _ _ _ _
    refine AW.regR1 rfl (by simp (maxSteps := 1000000) only [go_sem] <;> exact rfl) (by simp (disch := omega) only [go_sem, w64, wU] <;> exact rfl) ?_
    show ARounds _ _ _ _ _ _
    refine ARounds.mk ?_
    refine AW.regR rfl (by simp (maxSteps := 1000000) only [go_sem] <;> exact rfl) (by simp (disch := omega) only [go_sem, w64, wU] <;> exact rfl) ?_
    refine AW.seq ?_
    refine AW.condF (by simp (maxSteps := 1000000) only [go_sem] <;> exact rfl) ?_
    refine AW.exit ?_
    show AW _ _ _ _ _
    refine AW.regR1 rfl (by simp (maxSteps := 1000000) only [go_sem] <;> exact rfl) (by simp (disch := omega) only [go_sem, w64, wU] <;> exact rfl) ?_
    show ARounds _ _ _ _ _ _
    refine ARounds.mk ?_
    refine AW.regR rfl (by simp (maxSteps := 1000000) only [go_sem] <;> exact rfl) (by simp (disch := omega) only [go_sem, w64, wU] <;> exact rfl) ?_
    refine AW.seq ?_
    refine AW.condT (by simp (maxSteps := 1000000) only [go_sem] <;> exact rfl) ?_
    refine AW.skip ?_
    show AW _ _ _ _ _
    refine AW.seq ?_
    refine AW.block ?_
    refine AW.regR rfl (by simp (maxSteps := 1000000) only [go_sem] <;> exact rfl) (by simp (disch := omega) only [go_sem, w64, wU] <;> exact rfl) ?_
    refine AW.regR rfl (by simp (maxSteps := 1000000) only [go_sem] <;> exact rfl) (by simp (disch := omega) only [go_sem, w64, wU] <;> exact rfl) ?_
    refine AW.block ?_
    refine AW.rounds 5 ?_
    refine ARounds.mk ?_
    refine AW.regR rfl (by simp (maxSteps := 1000000) only [go_sem] <;> exact rfl) (by simp (disch := omega) only [go_sem, w64, wU] <;> exact rfl) ?_
    refine AW.seq ?_
    refine AW.condT (by simp (maxSteps := 1000000) only [go_sem] <;> exact rfl) ?_
    refine AW.skip ?_
    show AW _ _ _ _ _
    refine AW.seq ?_
    refine AW.block ?_
    refine AW.regR rfl (by simp (maxSteps := 1000000) only [go_sem] <;> exact rfl) (by simp (disch := omega) only [go_sem, w64, wU] <;> exact rfl) ?_
    refine AW.regR1 rfl (by simp (maxSteps := 1000000) only [go_sem] <;> exact rfl) (by simp (disch := omega) only [go_sem, w64, wU] <;> exact rfl) ?_
    show AW _ _ _ _ _
    refine AW.regR1 rfl (by simp (maxSteps := 1000000) only [go_sem] <;> exact rfl) (by simp (disch := omega) only [go_sem, w64, wU] <;> exact rfl) ?_
    show ARounds _ _ _ _ _ _
    refine ARounds.mk ?_
    refine AW.regR rfl (by simp (maxSteps := 1000000) only [go_sem] <;> exact rfl) (by simp (disch := omega) only [go_sem, w64, wU] <;> exact rfl) ?_
    refine AW.seq ?_
    refine AW.condT (by simp (maxSteps := 1000000) only [go_sem] <;> exact rfl) ?_
    refine AW.skip ?_
    show AW _ _ _ _ _
    refine AW.seq ?_
    refine AW.block ?_
    refine AW.regR rfl (by simp (maxSteps := 1000000) only [go_sem] <;> exact rfl) (by simp (disch := omega) only [go_sem, w64, wU] <;> exact rfl) ?_
    refine AW.regR1 rfl (by simp (maxSteps := 1000000) only [go_sem] <;> exact rfl) (by simp (disch := omega) only [go_sem, w64, wU] <;> exact rfl) ?_
    show AW _ _ _ _ _
    refine AW.regR1 rfl (by simp (maxSteps := 1000000) only [go_sem] <;> exact rfl) (by simp (disch := omega) only [go_sem, w64, wU] <;> exact rfl) ?_
    show ARounds _ _ _ _ _ _
    refine ARounds.mk ?_
    refine AW.regR rfl (by simp (maxSteps := 1000000) only [go_sem] <;> exact rfl) (by simp (disch := omega) only [go_sem, w64, wU] <;> exact rfl) ?_
    refine AW.seq ?_
    refine AW.condT (by simp (maxSteps := 1000000) only [go_sem] <;> exact rfl) ?_
    refine AW.skip ?_
    show AW _ _ _ _ _
    refine AW.seq ?_
    refine AW.block ?_
    refine AW.regR rfl (by simp (maxSteps := 1000000) only [go_sem] <;> exact rfl) (by simp (disch := omega) only [go_sem, w64, wU] <;> exact rfl) ?_
    refine AW.regR1 rfl (by simp (maxSteps := 1000000) only [go_sem] <;> exact rfl) (by simp (disch := omega) only [go_sem, w64, wU] <;> exact rfl) ?_
    show AW _ _ _ _ _
    refine AW.regR1 rfl (by simp (maxSteps := 1000000) only [go_sem] <;> exact rfl) (by simp (disch := omega) only [go_sem, w64, wU] <;> exact rfl) ?_
    show ARounds _ _ _ _ _ _
    refine ARounds.mk ?_
    refine AW.regR rfl (by simp (maxSteps := 1000000) only [go_sem] <;> exact rfl) (by simp (disch := omega) only [go_sem, w64, wU] <;> exact rfl) ?_
    refine AW.seq ?_
    refine AW.condT (by simp (maxSteps := 1000000) only [go_sem] <;> exact rfl) ?_
    refine AW.skip ?_
    show AW _ _ _ _ _
    refine AW.seq ?_
    refine AW.block ?_
    refine AW.regR rfl (by simp (maxSteps := 1000000) only [go_sem] <;> exact rfl) (by simp (disch := omega) only [go_sem, w64, wU] <;> exact rfl) ?_
    refine AW.regR1 rfl (by simp (maxSteps := 1000000) only [go_sem] <;> exact rfl) (by simp (disch := omega) only [go_sem, w64, wU] <;> exact rfl) ?_
    show AW _ _ _ _ _
    refine AW.regR1 rfl (by simp (maxSteps := 1000000) only [go_sem] <;> exact rfl) (by simp (disch := omega) only [go_sem, w64, wU] <;> exact rfl) ?_
    show ARounds _ _ _ _ _ _
    refine ARounds.mk ?_
    refine AW.regR rfl (by simp (maxSteps := 1000000) only [go_sem] <;> exact rfl) (by simp (disch := omega) only [go_sem, w64, wU] <;> exact rfl) ?_
    refine AW.seq ?_
    refine AW.condF (by simp (maxSteps := 1000000) only [go_sem] <;> exact rfl) ?_
    refine AW.exit ?_
    show AW _ _ _ _ _
    refine AW.regR1 rfl (by simp (maxSteps := 1000000) only [go_sem] <;> exact rfl) (by simp (disch := omega) only [go_sem, w64, wU] <;> exact rfl) ?_
    show ARounds _ _ _ _ _ _
    refine ARounds.mk ?_
    refine AW.regR rfl (by simp (maxSteps := 1000000) only [go_sem] <;> exact rfl) (by simp (disch := omega) only [go_sem, w64, wU] <;> exact rfl) ?_
    refine AW.seq ?_
    refine AW.condT (by simp (maxSteps := 1000000) only [go_sem] <;> exact rfl) ?_
    refine AW.skip ?_
    show AW _ _ _ _ _
    refine AW.seq ?_
    refine AW.block ?_
    refine AW.regR rfl (by simp (maxSteps := 1000000) only [go_sem] <;> exact rfl) (by simp (disch := omega) only [go_sem, w64, wU] <;> exact rfl) ?_
    refine AW.regR rfl (by simp (maxSteps := 1000000) only [go_sem] <;> exact rfl) (by simp (disch := omega) only [go_sem, w64, wU] <;> exact rfl) ?_
    refine AW.block ?_
    refine AW.rounds 5 ?_
    refine ARounds.mk ?_
    refine AW.regR rfl (by simp (maxSteps := 1000000) only [go_sem] <;> exact rfl) (by simp (disch := omega) only [go_sem, w64, wU] <;> exact rfl) ?_
    refine AW.seq ?_
    refine AW.condT (by simp (maxSteps := 1000000) only [go_sem] <;> exact rfl) ?_
    refine AW.skip ?_
    show AW _ _ _ _ _
    refine AW.seq ?_
    refine AW.block ?_
    refine AW.regR rfl (by simp (maxSteps := 1000000) only [go_sem] <;> exact rfl) (by simp (disch := omega) only [go_sem, w64, wU] <;> exact rfl) ?_
    refine AW.regR1 rfl (by simp (maxSteps := 1000000) only [go_sem] <;> exact rfl) (by simp (disch := omega) only [go_sem, w64, wU] <;> exact rfl) ?_
    show AW _ _ _ _ _
    refine AW.regR1 rfl (by simp (maxSteps := 1000000) only [go_sem] <;> exact rfl) (by simp (disch := omega) only [go_sem, w64, wU] <;> exact rfl) ?_
    show ARounds _ _ _ _ _ _
    refine ARounds.mk ?_
    refine AW.regR rfl (by simp (maxSteps := 1000000) only [go_sem] <;> exact rfl) (by simp (disch := omega) only [go_sem, w64, wU] <;> exact rfl) ?_
    refine AW.seq ?_
    refine AW.condT (by simp (maxSteps := 1000000) only [go_sem] <;> exact rfl) ?_
    refine AW.skip ?_
    show AW _ _ _ _ _
    refine AW.seq ?_
    refine AW.block ?_
    refine AW.regR rfl (by simp (maxSteps := 1000000) only [go_sem] <;> exact rfl) (by simp (disch := omega) only [go_sem, w64, wU] <;> exact rfl) ?_
    refine AW.regR1 rfl (by simp (maxSteps := 1000000) only [go_sem] <;> exact rfl) (by simp (disch := omega) only [go_sem, w64, wU] <;> exact rfl) ?_
    show AW _ _ _ _ _
    refine AW.regR1 rfl (by simp (maxSteps := 1000000) only [go_sem] <;> exact rfl) (by simp (disch := omega) only [go_sem, w64, wU] <;> exact rfl) ?_
    show ARounds _ _ _ _ _ _
    refine ARounds.mk ?_
    refine AW.regR rfl (by simp (maxSteps := 1000000) only [go_sem] <;> exact rfl) (by simp (disch := omega) only [go_sem, w64, wU] <;> exact rfl) ?_
    refine AW.seq ?_
    refine AW.condT (by simp (maxSteps := 1000000) only [go_sem] <;> exact rfl) ?_
    refine AW.skip ?_
    show AW _ _ _ _ _
    refine AW.seq ?_
    refine AW.block ?_
    refine AW.regR rfl (by simp (maxSteps := 1000000) only [go_sem] <;> exact rfl) (by simp (disch := omega) only [go_sem, w64, wU] <;> exact rfl) ?_
    refine AW.regR1 rfl (by simp (maxSteps := 1000000) only [go_sem] <;> exact rfl) (by simp (disch := omega) only [go_sem, w64, wU] <;> exact rfl) ?_
    show AW _ _ _ _ _
    refine AW.regR1 rfl (by simp (maxSteps := 1000000) only [go_sem] <;> exact rfl) (by simp (disch := omega) only [go_sem, w64, wU] <;> exact rfl) ?_
    show ARounds _ _ _ _ _ _
    refine ARounds.mk ?_
    refine AW.regR rfl (by simp (maxSteps := 1000000) only [go_sem] <;> exact rfl) (by simp (disch := omega) only [go_sem, w64, wU] <;> exact rfl) ?_
    refine AW.seq ?_
    refine AW.condT (by simp (maxSteps := 1000000) only [go_sem] <;> exact rfl) ?_
    refine AW.skip ?_
    show AW _ _ _ _ _
    refine AW.seq ?_
    refine AW.block ?_
    refine AW.regR rfl (by simp (maxSteps := 1000000) only [go_sem] <;> exact rfl) (by simp (disch := omega) only [go_sem, w64, wU] <;> exact rfl) ?_
    refine AW.regR1 rfl (by simp (maxSteps := 1000000) only [go_sem] <;> exact rfl) (by simp (disch := omega) only [go_sem, w64, wU] <;> exact rfl) ?_
    show AW _ _ _ _ _
    refine AW.regR1 rfl (by simp (maxSteps := 1000000) only [go_sem] <;> exact rfl) (by simp (disch := omega) only [go_sem, w64, wU] <;> exact rfl) ?_
    show ARounds _ _ _ _ _ _
    refine ARounds.mk ?_
    refine AW.regR rfl (by simp (maxSteps := 1000000) only [go_sem] <;> exact rfl) (by simp (disch := omega) only [go_sem, w64, wU] <;> exact rfl) ?_
    refine AW.seq ?_
    refine AW.condF (by simp (maxSteps := 1000000) only [go_sem] <;> exact rfl) ?_
    refine AW.exit ?_
    show AW _ _ _ _ _
    refine AW.regR1 rfl (by simp (maxSteps := 1000000) only [go_sem] <;> exact rfl) (by simp (disch := omega) only [go_sem, w64, wU] <;> exact rfl) ?_
    show ARounds _ _ _ _ _ _
    refine ARounds.mk ?_
    refine AW.regR rfl (by simp (maxSteps := 1000000) only [go_sem] <;> exact rfl) (by simp (disch := omega) only [go_sem, w64, wU] <;> exact rfl) ?_
    refine AW.seq ?_
    refine AW.condT (by simp (maxSteps := 1000000) only [go_sem] <;> exact rfl) ?_
    refine AW.skip ?_
    show AW _ _ _ _ _
    refine AW.seq ?_
    refine AW.block ?_
    refine AW.regR rfl (by simp (maxSteps := 1000000) only [go_sem] <;> exact rfl) (by simp (disch := omega) only [go_sem, w64, wU] <;> exact rfl) ?_
    refine AW.regR rfl (by simp (maxSteps := 1000000) only [go_sem] <;> exact rfl) (by simp (disch := omega) only [go_sem, w64, wU] <;> exact rfl) ?_
    refine AW.block ?_
    refine AW.rounds 5 ?_
    refine ARounds.mk ?_
    refine AW.regR rfl (by simp (maxSteps := 1000000) only [go_sem] <;> exact rfl) (by simp (disch := omega) only [go_sem, w64, wU] <;> exact rfl) ?_
    refine AW.seq ?_
    refine AW.condT (by simp (maxSteps := 1000000) only [go_sem] <;> exact rfl) ?_
    refine AW.skip ?_
    show AW _ _ _ _ _
    refine AW.seq ?_
    refine AW.block ?_
    refine AW.regR rfl (by simp (maxSteps := 1000000) only [go_sem] <;> exact rfl) (by simp (disch := omega) only [go_sem, w64, wU] <;> exact rfl) ?_
    refine AW.regR1 rfl (by simp (maxSteps := 1000000) only [go_sem] <;> exact rfl) (by simp (disch := omega) only [go_sem, w64, wU] <;> exact rfl) ?_
    show AW _ _ _ _ _
    refine AW.regR1 rfl (by simp (maxSteps := 1000000) only [go_sem] <;> exact rfl) (by simp (disch := omega) only [go_sem, w64, wU] <;> exact rfl) ?_
    show ARounds _ _ _ _ _ _
    refine ARounds.mk ?_
    refine AW.regR rfl (by simp (maxSteps := 1000000) only [go_sem] <;> exact rfl) (by simp (disch := omega) only [go_sem, w64, wU] <;> exact rfl) ?_
    refine AW.seq ?_
    refine AW.condT (by simp (maxSteps := 1000000) only [go_sem] <;> exact rfl) ?_
    refine AW.skip ?_
    show AW _ _ _ _ _
    refine AW.seq ?_
    refine AW.block ?_
    refine AW.regR rfl (by simp (maxSteps := 1000000) only [go_sem] <;> exact rfl) (by simp (disch := omega) only [go_sem, w64, wU] <;> exact rfl) ?_
    refine AW.regR1 rfl (by simp (maxSteps := 1000000) only [go_sem] <;> exact rfl) (by simp (disch := omega) only [go_sem, w64, wU] <;> exact rfl) ?_
    show AW _ _ _ _ _
    refine AW.regR1 rfl (by simp (maxSteps := 1000000) only [go_sem] <;> exact rfl) (by simp (disch := omega) only [go_sem, w64, wU] <;> exact rfl) ?_
    show ARounds _ _ _ _ _ _
    refine ARounds.mk ?_
    refine AW.regR rfl (by simp (maxSteps := 1000000) only [go_sem] <;> exact rfl) (by simp (disch := omega) only [go_sem, w64, wU] <;> exact rfl) ?_
    refine AW.seq ?_
    refine AW.condT (by simp (maxSteps := 1000000) only [go_sem] <;> exact rfl) ?_
    refine AW.skip ?_
    show AW _ _ _ _ _
    refine AW.seq ?_
    refine AW.block ?_
    refine AW.regR rfl (by simp (maxSteps := 1000000) only [go_sem] <;> exact rfl) (by simp (disch := omega) only [go_sem, w64, wU] <;> exact rfl) ?_
    refine AW.regR1 rfl (by simp (maxSteps := 1000000) only [go_sem] <;> exact rfl) (by simp (disch := omega) only [go_sem, w64, wU] <;> exact rfl) ?_
    show AW _ _ _ _ _
    refine AW.regR1 rfl (by simp (maxSteps := 1000000) only [go_sem] <;> exact rfl) (by simp (disch := omega) only [go_sem, w64, wU] <;> exact rfl) ?_
    show ARounds _ _ _ _ _ _
    refine ARounds.mk ?_
    refine AW.regR rfl (by simp (maxSteps := 1000000) only [go_sem] <;> exact rfl) (by simp (disch := omega) only [go_sem, w64, wU] <;> exact rfl) ?_
    refine AW.seq ?_
    refine AW.condT (by simp (maxSteps := 1000000) only [go_sem] <;> exact rfl) ?_
    refine AW.skip ?_
    show AW _ _ _ _ _
    refine AW.seq ?_
    refine AW.block ?_
    refine AW.regR rfl (by simp (maxSteps := 1000000) only [go_sem] <;> exact rfl) (by simp (disch := omega) only [go_sem, w64, wU] <;> exact rfl) ?_
    refine AW.regR1 rfl (by simp (maxSteps := 1000000) only [go_sem] <;> exact rfl) (by simp (disch := omega) only [go_sem, w64, wU] <;> exact rfl) ?_
    show AW _ _ _ _ _
    refine AW.regR1 rfl (by simp (maxSteps := 1000000) only [go_sem] <;> exact rfl) (by simp (disch := omega) only [go_sem, w64, wU] <;> exact rfl) ?_
    show ARounds _ _ _ _ _ _
    refine ARounds.mk ?_
    refine AW.regR rfl (by simp (maxSteps := 1000000) only [go_sem] <;> exact rfl) (by simp (disch := omega) only [go_sem, w64, wU] <;> exact rfl) ?_
    refine AW.seq ?_
    refine AW.condF (by simp (maxSteps := 1000000) only [go_sem] <;> exact rfl) ?_
    refine AW.exit ?_
    show AW _ _ _ _ _
    refine AW.regR1 rfl (by simp (maxSteps := 1000000) only [go_sem] <;> exact rfl) (by simp (disch := omega) only [go_sem, w64, wU] <;> exact rfl) ?_
    show ARounds _ _ _ _ _ _
    refine ARounds.mk ?_
    refine AW.regR rfl (by simp (maxSteps := 1000000) only [go_sem] <;> exact rfl) (by simp (disch := omega) only [go_sem, w64, wU] <;> exact rfl) ?_
    refine AW.seq ?_
    refine AW.condT (by simp (maxSteps := 1000000) only [go_sem] <;> exact rfl) ?_
    refine AW.skip ?_
    show AW _ _ _ _ _
    refine AW.seq ?_
    refine AW.block ?_
    refine AW.regR rfl (by simp (maxSteps := 1000000) only [go_sem] <;> exact rfl) (by simp (disch := omega) only [go_sem, w64, wU] <;> exact rfl) ?_
    refine AW.regR rfl (by simp (maxSteps := 1000000) only [go_sem] <;> exact rfl) (by simp (disch := omega) only [go_sem, w64, wU] <;> exact rfl) ?_
    refine AW.block ?_
    refine AW.rounds 5 ?_
    refine ARounds.mk ?_
    refine AW.regR rfl (by simp (maxSteps := 1000000) only [go_sem] <;> exact rfl) (by simp (disch := omega) only [go_sem, w64, wU] <;> exact rfl) ?_
    refine AW.seq ?_
    refine AW.condT (by simp (maxSteps := 1000000) only [go_sem] <;> exact rfl) ?_
    refine AW.skip ?_
    show AW _ _ _ _ _
    refine AW.seq ?_
    refine AW.block ?_
    refine AW.regR rfl (by simp (maxSteps := 1000000) only [go_sem] <;> exact rfl) (by simp (disch := omega) only [go_sem, w64, wU] <;> exact rfl) ?_
    refine AW.regR1 rfl (by simp (maxSteps := 1000000) only [go_sem] <;> exact rfl) (by simp (disch := omega) only [go_sem, w64, wU] <;> exact rfl) ?_
    show AW _ _ _ _ _
    refine AW.regR1 rfl (by simp (maxSteps := 1000000) only [go_sem] <;> exact rfl) (by simp (disch := omega) only [go_sem, w64, wU] <;> exact rfl) ?_
    show ARounds _ _ _ _ _ _
    refine ARounds.mk ?_
    refine AW.regR rfl (by simp (maxSteps := 1000000) only [go_sem] <;> exact rfl) (by simp (disch := omega) only [go_sem, w64, wU] <;> exact rfl) ?_
    refine AW.seq ?_
    refine AW.condT (by simp (maxSteps := 1000000) only [go_sem] <;> exact rfl) ?_
    refine AW.skip ?_
    show AW _ _ _ _ _
    refine AW.seq ?_
    refine AW.block ?_
    refine AW.regR rfl (by simp (maxSteps := 1000000) only [go_sem] <;> exact rfl) (by simp (disch := omega) only [go_sem, w64, wU] <;> exact rfl) ?_
    refine AW.regR1 rfl (by simp (maxSteps := 1000000) only [go_sem] <;> exact rfl) (by simp (disch := omega) only [go_sem, w64, wU] <;> exact rfl) ?_
    show AW _ _ _ _ _
    refine AW.regR1 rfl (by simp (maxSteps := 1000000) only [go_sem] <;> exact rfl) (by simp (disch := omega) only [go_sem, w64, wU] <;> exact rfl) ?_
    show ARounds _ _ _ _ _ _
    refine ARounds.mk ?_
    refine AW.regR rfl (by simp (maxSteps := 1000000) only [go_sem] <;> exact rfl) (by simp (disch := omega) only [go_sem, w64, wU] <;> exact rfl) ?_
    refine AW.seq ?_
    refine AW.condT (by simp (maxSteps := 1000000) only [go_sem] <;> exact rfl) ?_
    refine AW.skip ?_
    show AW _ _ _ _ _
    refine AW.seq ?_
    refine AW.block ?_
    refine AW.regR rfl (by simp (maxSteps := 1000000) only [go_sem] <;> exact rfl) (by simp (disch := omega) only [go_sem, w64, wU] <;> exact rfl) ?_
    refine AW.regR1 rfl (by simp (maxSteps := 1000000) only [go_sem] <;> exact rfl) (by simp (disch := omega) only [go_sem, w64, wU] <;> exact rfl) ?_
    show AW _ _ _ _ _
    refine AW.regR1 rfl (by simp (maxSteps := 1000000) only [go_sem] <;> exact rfl) (by simp (disch := omega) only [go_sem, w64, wU] <;> exact rfl) ?_
    show ARounds _ _ _ _ _ _
    refine ARounds.mk ?_
    refine AW.regR rfl (by simp (maxSteps := 1000000) only [go_sem] <;> exact rfl) (by simp (disch := omega) only [go_sem, w64, wU] <;> exact rfl) ?_
    refine AW.seq ?_
    refine AW.condT (by simp (maxSteps := 1000000) only [go_sem] <;> exact rfl) ?_
    refine AW.skip ?_
    show AW _ _ _ _ _
    refine AW.seq ?_
    refine AW.block ?_
    refine AW.regR rfl (by simp (maxSteps := 1000000) only [go_sem] <;> exact rfl) (by simp (disch := omega) only [go_sem, w64, wU] <;> exact rfl) ?_
    refine AW.regR1 rfl (by simp (maxSteps := 1000000) only [go_sem] <;> exact rfl) (by simp (disch := omega) only [go_sem, w64, wU] <;> exact rfl) ?_
    show AW _ _ _ _ _
    refine AW.regR1 rfl (by simp (maxSteps := 1000000) only [go_sem] <;> exact rfl) (by simp (disch := omega) only [go_sem, w64, wU] <;> exact rfl) ?_
    show ARounds _ _ _ _ _ _
    refine ARounds.mk ?_
    refine AW.regR rfl (by simp (maxSteps := 1000000) only [go_sem] <;> exact rfl) (by simp (disch := omega) only [go_sem, w64, wU] <;> exact rfl) ?_
    refine AW.seq ?_
    refine AW.condF (by simp (maxSteps := 1000000) only [go_sem] <;> exact rfl) ?_
    refine AW.exit ?_
    show AW _ _ _ _ _
    refine AW.regR1 rfl (by simp (maxSteps := 1000000) only [go_sem] <;> exact rfl) (by simp (disch := omega) only [go_sem, w64, wU] <;> exact rfl) ?_
    show ARounds _ _ _ _ _ _
    refine ARounds.mk ?_
    refine AW.regR rfl (by simp (maxSteps := 1000000) only [go_sem] <;> exact rfl) (by simp (disch := omega) only [go_sem, w64, wU] <;> exact rfl) ?_
    refine AW.seq ?_
    refine AW.condT (by simp (maxSteps := 1000000) only [go_sem] <;> exact rfl) ?_
    refine AW.skip ?_
    show AW _ _ _ _ _
    refine AW.seq ?_
    refine AW.block ?_
    refine AW.regR rfl (by simp (maxSteps := 1000000) only [go_sem] <;> exact rfl) (by simp (disch := omega) only [go_sem, w64, wU] <;> exact rfl) ?_
    refine AW.regR rfl (by simp (maxSteps := 1000000) only [go_sem] <;> exact rfl) (by simp (disch := omega) only [go_sem, w64, wU] <;> exact rfl) ?_
    refine AW.block ?_
    refine AW.rounds 5 ?_
    refine ARounds.mk ?_
    refine AW.regR rfl (by simp (maxSteps := 1000000) only [go_sem] <;> exact rfl) (by simp (disch := omega) only [go_sem, w64, wU] <;> exact rfl) ?_
    refine AW.seq ?_
    refine AW.condT (by simp (maxSteps := 1000000) only [go_sem] <;> exact rfl) ?_
    refine AW.skip ?_
    show AW _ _ _ _ _
    refine AW.seq ?_
    refine AW.block ?_
    refine AW.regR rfl (by simp (maxSteps := 1000000) only [go_sem] <;> exact rfl) (by simp (disch := omega) only [go_sem, w64, wU] <;> exact rfl) ?_
    refine AW.regR1 rfl (by simp (maxSteps := 1000000) only [go_sem] <;> exact rfl) (by simp (disch := omega) only [go_sem, w64, wU] <;> exact rfl) ?_
    show AW _ _ _ _ _
    refine AW.regR1 rfl (by simp (maxSteps := 1000000) only [go_sem] <;> exact rfl) (by simp (disch := omega) only [go_sem, w64, wU] <;> exact rfl) ?_
    show ARounds _ _ _ _ _ _
    refine ARounds.mk ?_
    refine AW.regR rfl (by simp (maxSteps := 1000000) only [go_sem] <;> exact rfl) (by simp (disch := omega) only [go_sem, w64, wU] <;> exact rfl) ?_
    refine AW.seq ?_
    refine AW.condT (by simp (maxSteps := 1000000) only [go_sem] <;> exact rfl) ?_
    refine AW.skip ?_
    show AW _ _ _ _ _
    refine AW.seq ?_
    refine AW.block ?_
    refine AW.regR rfl (by simp (maxSteps := 1000000) only [go_sem] <;> exact rfl) (by simp (disch := omega) only [go_sem, w64, wU] <;> exact rfl) ?_
    refine AW.regR1 rfl (by simp (maxSteps := 1000000) only [go_sem] <;> exact rfl) (by simp (disch := omega) only [go_sem, w64, wU] <;> exact rfl) ?_
    show AW _ _ _ _ _
    refine AW.regR1 rfl (by simp (maxSteps := 1000000) only [go_sem] <;> exact rfl) (by simp (disch := omega) only [go_sem, w64, wU] <;> exact rfl) ?_
    show ARounds _ _ _ _ _ _
    refine ARounds.mk ?_
    refine AW.regR rfl (by simp (maxSteps := 1000000) only [go_sem] <;> exact rfl) (by simp (disch := omega) only [go_sem, w64, wU] <;> exact rfl) ?_
    refine AW.seq ?_
    refine AW.condT (by simp (maxSteps := 1000000) only [go_sem] <;> exact rfl) ?_
    refine AW.skip ?_
    show AW _ _ _ _ _
    refine AW.seq ?_
    refine AW.block ?_
    refine AW.regR rfl (by simp (maxSteps := 1000000) only [go_sem] <;> exact rfl) (by simp (disch := omega) only [go_sem, w64, wU] <;> exact rfl) ?_
    refine AW.regR1 rfl (by simp (maxSteps := 1000000) only [go_sem] <;> exact rfl) (by simp (disch := omega) only [go_sem, w64, wU] <;> exact rfl) ?_
    show AW _ _ _ _ _
    refine AW.regR1 rfl (by simp (maxSteps := 1000000) only [go_sem] <;> exact rfl) (by simp (disch := omega) only [go_sem, w64, wU] <;> exact rfl) ?_
    show ARounds _ _ _ _ _ _
    refine ARounds.mk ?_
    refine AW.regR rfl (by simp (maxSteps := 1000000) only [go_sem] <;> exact rfl) (by simp (disch := omega) only [go_sem, w64, wU] <;> exact rfl) ?_
    refine AW.seq ?_
    refine AW.condT (by simp (maxSteps := 1000000) only [go_sem] <;> exact rfl) ?_
    refine AW.skip ?_
    show AW _ _ _ _ _
    refine AW.seq ?_
    refine AW.block ?_
    refine AW.regR rfl (by simp (maxSteps := 1000000) only [go_sem] <;> exact rfl) (by simp (disch := omega) only [go_sem, w64, wU] <;> exact rfl) ?_
    refine AW.regR1 rfl (by simp (maxSteps := 1000000) only [go_sem] <;> exact rfl) (by simp (disch := omega) only [go_sem, w64, wU] <;> exact rfl) ?_
    show AW _ _ _ _ _
    refine AW.regR1 rfl (by simp (maxSteps := 1000000) only [go_sem] <;> exact rfl) (by simp (disch := omega) only [go_sem, w64, wU] <;> exact rfl) ?_
    show ARounds _ _ _ _ _ _
    refine ARounds.mk ?_
    refine AW.regR rfl (by simp (maxSteps := 1000000) only [go_sem] <;> exact rfl) (by simp (disch := omega) only [go_sem, w64, wU] <;> exact rfl) ?_
    refine AW.seq ?_
    refine AW.condF (by simp (maxSteps := 1000000) only [go_sem] <;> exact rfl) ?_
    refine AW.exit ?_
    show AW _ _ _ _ _
    refine AW.regR1 rfl (by simp (maxSteps := 1000000) only [go_sem] <;> exact rfl) (by simp (disch := omega) only [go_sem, w64, wU] <;> exact rfl) ?_
    show ARounds _ _ _ _ _ _
    refine ARounds.mk ?_
    refine AW.regR rfl (by simp (maxSteps := 1000000) only [go_sem] <;> exact rfl) (by simp (disch := omega) only [go_sem, w64, wU] <;> exact rfl) ?_
    refine AW.seq ?_
    refine AW.condF (by simp (maxSteps := 1000000) only [go_sem] <;> exact rfl) ?_
    refine AW.exit ?_
    show AW _ _ _ _ _
    refine AW.regR rfl (by simp (maxSteps := 1000000) only [go_sem] <;> exact rfl) (by simp (disch := omega) only [go_sem, w64, wU] <;> exact rfl) ?_
    refine retK.fin rfl (by simp (maxSteps := 1000000) only [go_sem] <;> exact rfl) (by simp (maxSteps := 1000000) only [go_sem] <;> exact rfl) (.of ?_)
    have hk := ok_of hc1
    rw [putS_ok hk, hc1]; simp only [flat, four, List.cons_append, List.nil_append, shi24, shi16, shi8, shi0, wrap_u8']
theorem c96 (s : ByteArray) (hs : s.size = 4) : PC Try.prog 96 [.str s] (.int .u64 (num s 0)) := by
  refine PC.start 19 Try.call96 Try.func96 rfl Try.ntmps96 Try.results96 (by simp only [go_sem]; exact rfl) fun z hz => ?_
  have hb0 := bat_rng s 0; have hb1 := bat_rng s 1; have hb2 := bat_rng s 2; have hb3 := bat_rng s 3
  refine AW.regR rfl (by simp (maxSteps := 1000000) only [go_sem, hs] <;> exact rfl) (by simp (disch := omega) only [go_sem, w64, wU, hs] <;> exact rfl) ?_
  refine AW.regR rfl (by simp (maxSteps := 1000000) only [go_sem, hs] <;> exact rfl) (by simp (disch := omega) only [go_sem, w64, wU, hs] <;> exact rfl) ?_
  refine AW.seq ?_
  refine AW.regR rfl (by simp (maxSteps := 1000000) only [go_sem, hs] <;> exact rfl) (by simp (disch := omega) only [go_sem, w64, wU, hs] <;> exact rfl) ?_
  refine AW.block ?_
  refine AW.rounds 5 ?_
  refine ARounds.mk ?_
  refine AW.seq ?_
  refine AW.regR rfl (by simp (maxSteps := 1000000) only [go_sem, hs] <;> exact rfl) (by simp (disch := omega) only [go_sem, w64, wU, hs] <;> exact rfl) ?_
  refine AW.condT (by simp (maxSteps := 1000000) only [go_sem, hs] <;> exact rfl) ?_
  refine AW.skip ?_
  show AW _ _ _ _ _
  refine AW.seq ?_
  refine AW.block ?_
  refine AW.regR1 rfl (by simp (maxSteps := 1000000) only [go_sem, hs] <;> exact rfl) (by simp (disch := omega) only [go_sem, w64, wU, hs] <;> exact rfl) ?_
  show AW _ _ _ _ _
  refine AW.regR1 rfl (by simp (maxSteps := 1000000) only [go_sem, hs] <;> exact rfl) (by simp (disch := omega) only [go_sem, w64, wU, hs] <;> exact rfl) ?_
  show ARounds _ _ _ _ _ _
  refine ARounds.mk ?_
  refine AW.seq ?_
  refine AW.regR rfl (by simp (maxSteps := 1000000) only [go_sem, hs] <;> exact rfl) (by simp (disch := omega) only [go_sem, w64, wU, hs] <;> exact rfl) ?_
  refine AW.condT (by simp (maxSteps := 1000000) only [go_sem, hs] <;> exact rfl) ?_
  refine AW.skip ?_
  show AW _ _ _ _ _
  refine AW.seq ?_
  refine AW.block ?_
  refine AW.regR1 rfl (by simp (maxSteps := 1000000) only [go_sem, hs] <;> exact rfl) (by simp (disch := omega) only [go_sem, w64, wU, hs] <;> exact rfl) ?_
  show AW _ _ _ _ _
  refine AW.regR1 rfl (by simp (maxSteps := 1000000) only [go_sem, hs] <;> exact rfl) (by simp (disch := omega) only [go_sem, w64, wU, hs] <;> exact rfl) ?_
  show ARounds _ _ _ _ _ _
  refine ARounds.mk ?_
  refine AW.seq ?_
  refine AW.regR rfl (by simp (maxSteps := 1000000) only [go_sem, hs] <;> exact rfl) (by simp (disch := omega) only [go_sem, w64, wU, hs] <;> exact rfl) ?_
  refine AW.condT (by simp (maxSteps := 1000000) only [go_sem, hs] <;> exact rfl) ?_
  refine AW.skip ?_
  show AW _ _ _ _ _
  refine AW.seq ?_
  refine AW.block ?_
  refine AW.regR1 rfl (by simp (maxSteps := 1000000) only [go_sem, hs] <;> exact rfl) (by simp (disch := omega) only [go_sem, w64, wU, hs] <;> exact rfl) ?_
  show AW _ _ _ _ _
  refine AW.regR1 rfl (by simp (maxSteps := 1000000) only [go_sem, hs] <;> exact rfl) (by simp (disch := omega) only [go_sem, w64, wU, hs] <;> exact rfl) ?_
  show ARounds _ _ _ _ _ _
  refine ARounds.mk ?_
  refine AW.seq ?_
  refine AW.regR rfl (by simp (maxSteps := 1000000) only [go_sem, hs] <;> exact rfl) (by simp (disch := omega) only [go_sem, w64, wU, hs] <;> exact rfl) ?_
  refine AW.condT (by simp (maxSteps := 1000000) only [go_sem, hs] <;> exact rfl) ?_
  refine AW.skip ?_
  show AW _ _ _ _ _
  refine AW.seq ?_
  refine AW.block ?_
  refine AW.regR1 rfl (by simp (maxSteps := 1000000) only [go_sem, hs] <;> exact rfl) (by simp (disch := omega) only [go_sem, w64, wU, hs] <;> exact rfl) ?_
  show AW _ _ _ _ _
  refine AW.regR1 rfl (by simp (maxSteps := 1000000) only [go_sem, hs] <;> exact rfl) (by simp (disch := omega) only [go_sem, w64, wU, hs] <;> exact rfl) ?_
  show ARounds _ _ _ _ _ _
  refine ARounds.mk ?_
  refine AW.seq ?_
  refine AW.regR rfl (by simp (maxSteps := 1000000) only [go_sem, hs] <;> exact rfl) (by simp (disch := omega) only [go_sem, w64, wU, hs] <;> exact rfl) ?_
  refine AW.condF (by simp (maxSteps := 1000000) only [go_sem, hs] <;> exact rfl) ?_
  refine AW.exit ?_
  show AW _ _ _ _ _
  refine AW.regR rfl (by simp (maxSteps := 1000000) only [go_sem, hs] <;> exact rfl) (by simp (disch := omega) only [go_sem, w64, wU, hs] <;> exact rfl) ?_
  refine retK.fin rfl (by simp (maxSteps := 1000000) only [go_sem, hs] <;> exact rfl) (by simp (maxSteps := 1000000) only [go_sem, hs] <;> exact rfl) (.of ?_)
  simp (disch := omega) only [wU, ior_byte_u]; simp [num]
theorem c31 (s : ByteArray) : PC Try.prog 31 [.str s] (.tup [.agg [.int .i64 (rdS s 0), .int .i64 (rdS s 1), .int .i64 (rdS s 2), .int .i64 (rdS s 3), .int .i64 (rdS s 4), .int .i64 (rdS s 5), .int .i64 (rdS s 6), .int .i64 (rdS s 7)], .str (restS s), .int .i64 (errS s)]) := by
  refine PC.start 55 Try.call31 Try.func31 rfl Try.ntmps31 Try.results31 (by simp only [go_sem]; exact rfl) fun z hz => ?_
  refine AW.regR rfl (by simp (maxSteps := 1000000) only [go_sem] <;> exact rfl) (by simp (disch := omega) only [go_sem, w64, wU] <;> exact rfl) ?_
  refine AW.seq ?_
  refine AW.regR rfl (by simp (maxSteps := 1000000) only [go_sem] <;> exact rfl) (by simp (disch := omega) only [go_sem, w64, wU] <;> exact rfl) ?_
  refine AW.cond (by simp (maxSteps := 1000000) only [go_sem] <;> exact rfl) (fun hc1 => ?_) (fun hc1 => ?_)
  · try simp only [decide_eq_true_eq, decide_eq_false_iff_not, Bool.or_eq_true, Bool.or_eq_false_iff, Bool.and_eq_true, Bool.and_eq_false_imp, Bool.not_eq_true', Bool.not_eq_false'] at hc1
    refine AW.regR rfl (by simp (maxSteps := 1000000) only [go_sem] <;> exact rfl) (by simp (disch := omega) only [go_sem, w64, wU] <;> exact rfl) ?_
    refine retK.fin rfl (by simp (maxSteps := 1000000) only [go_sem] <;> exact rfl) (by simp (maxSteps := 1000000) only [go_sem] <;> exact rfl) (.of ?_)
    have he : errS s = 6 := by (unfold errS; rw [if_pos (by omega)])
    simp [rdS, restS, he]
  · try simp only [decide_eq_true_eq, decide_eq_false_iff_not, Bool.or_eq_true, Bool.or_eq_false_iff, Bool.and_eq_true, Bool.and_eq_false_imp, Bool.not_eq_true', Bool.not_eq_false'] at hc1
    refine AW.skip ?_
    show AW _ _ _ _ _
    have hs : 32 ≤ s.size := by omega
    have hle : ∀ j : Int, j ≤ 32 → (j ≤ (s.size : Int)) = True := fun j hj => by simp; omega
    have hwn : ∀ i, IntKind.i64.wrap (num s i) = num s i := fun i => by have := num_rng s i; exact w64 (by omega) (by omega)
    have hx0 : num (s.extract 0 4) 0 = num s 0 := num_extract rfl rfl (by omega)
    have hx1 : num (s.extract 4 8) 0 = num s 1 := num_extract rfl rfl (by omega)
    have hx2 : num (s.extract 8 12) 0 = num s 2 := num_extract rfl rfl (by omega)
    have hx3 : num (s.extract 12 16) 0 = num s 3 := num_extract rfl rfl (by omega)
    have hx4 : num (s.extract 16 20) 0 = num s 4 := num_extract rfl rfl (by omega)
    have hx5 : num (s.extract 20 24) 0 = num s 5 := num_extract rfl rfl (by omega)
    have hx6 : num (s.extract 24 28) 0 = num s 6 := num_extract rfl rfl (by omega)
    have hx7 : num (s.extract 28 32) 0 = num s 7 := num_extract rfl rfl (by omega)
    refine AW.regR rfl (by simp (maxSteps := 1000000) only [go_sem, hle, hwn, hx0, hx1, hx2, hx3, hx4, hx5, hx6, hx7] <;> exact rfl) (by simp (disch := omega) only [go_sem, w64, wU, hle, hwn, hx0, hx1, hx2, hx3, hx4, hx5, hx6, hx7] <;> exact rfl) ?_
    refine AW.seq ?_
    refine AW.regR rfl (by simp (maxSteps := 1000000) only [go_sem, hle, hwn, hx0, hx1, hx2, hx3, hx4, hx5, hx6, hx7] <;> exact rfl) (by simp (disch := omega) only [go_sem, w64, wU, hle, hwn, hx0, hx1, hx2, hx3, hx4, hx5, hx6, hx7] <;> exact rfl) ?_
    refine AW.block ?_
    refine AW.rounds 9 ?_
    refine ARounds.mk ?_
    refine AW.seq ?_
    refine AW.regR rfl (by simp (maxSteps := 1000000) only [go_sem, hle, hwn, hx0, hx1, hx2, hx3, hx4, hx5, hx6, hx7] <;> exact rfl) (by simp (disch := omega) only [go_sem, w64, wU, hle, hwn, hx0, hx1, hx2, hx3, hx4, hx5, hx6, hx7] <;> exact rfl) ?_
    refine AW.condT (by simp (maxSteps := 1000000) only [go_sem, hle, hwn, hx0, hx1, hx2, hx3, hx4, hx5, hx6, hx7] <;> exact rfl) ?_
    refine AW.skip ?_
    show AW _ _ _ _ _
    refine AW.seq ?_
    refine AW.block ?_
    refine AW.reg rfl ?_
    refine ARN.run1 (by simp (maxSteps := 1000000) only [go_sem, hle, hwn, hx0, hx1, hx2, hx3, hx4, hx5, hx6, hx7] <;> exact rfl) ?_
    refine ARN.pcall (fun hp => c96 (s.extract 0 4) (by rw [ByteArray.size_extract]; omega)) rfl (by simp (maxSteps := 1000000) only [go_sem, hle, hwn, hx0, hx1, hx2, hx3, hx4, hx5, hx6, hx7] <;> exact rfl) (by simp only [go_sem]) (by simp (maxSteps := 1000000) only [go_sem, hle, hwn, hx0, hx1, hx2, hx3, hx4, hx5, hx6, hx7] <;> exact rfl) ?_
    refine ARN.run1 (by simp (maxSteps := 1000000) only [go_sem, hle, hwn, hx0, hx1, hx2, hx3, hx4, hx5, hx6, hx7] <;> exact rfl) ?_
    refine ARN.fin1 (by simp (disch := omega) only [go_sem, w64, wU, hle, hwn, hx0, hx1, hx2, hx3, hx4, hx5, hx6, hx7] <;> exact rfl) ?_
    show AW _ _ _ _ _
    refine AW.regR1 rfl (by simp (maxSteps := 1000000) only [go_sem, hle, hwn, hx0, hx1, hx2, hx3, hx4, hx5, hx6, hx7] <;> exact rfl) (by simp (disch := omega) only [go_sem, w64, wU, hle, hwn, hx0, hx1, hx2, hx3, hx4, hx5, hx6, hx7] <;> exact rfl) ?_
    show ARounds _ _ _ _ _ _
    refine ARounds.mk ?_
    refine AW.seq ?_
    refine AW.regR rfl (by simp (maxSteps := 1000000) only [go_sem, hle, hwn, hx0, hx1, hx2, hx3, hx4, hx5, hx6, hx7] <;> exact rfl) (by simp (disch := omega) only [go_sem, w64, wU, hle, hwn, hx0, hx1, hx2, hx3, hx4, hx5, hx6, hx7] <;> exact rfl) ?_
    refine AW.condT (by simp (maxSteps := 1000000) only [go_sem, hle, hwn, hx0, hx1, hx2, hx3, hx4, hx5, hx6, hx7] <;> exact rfl) ?_
    refine AW.skip ?_
    show AW _ _ _ _ _
    refine AW.seq ?_
    refine AW.block ?_
    refine AW.reg rfl ?_
    refine ARN.run1 (by simp (maxSteps := 1000000) only [go_sem, hle, hwn, hx0, hx1, hx2, hx3, hx4, hx5, hx6, hx7] <;> exact rfl) ?_
    refine ARN.pcall (fun hp => c96 (s.extract 4 8) (by rw [ByteArray.size_extract]; omega)) rfl (by simp (maxSteps := 1000000) only [go_sem, hle, hwn, hx0, hx1, hx2, hx3, hx4, hx5, hx6, hx7] <;> exact rfl) (by simp only [go_sem]) (by simp (maxSteps := 1000000) only [go_sem, hle, hwn, hx0, hx1, hx2, hx3, hx4, hx5, hx6, hx7] <;> exact rfl) ?_
    refine ARN.run1 (by simp (maxSteps := 1000000) only [go_sem, hle, hwn, hx0, hx1, hx2, hx3, hx4, hx5, hx6, hx7] <;> exact rfl) ?_
    refine ARN.fin1 (by simp (disch := omega) only [go_sem, w64, wU, hle, hwn, hx0, hx1, hx2, hx3, hx4, hx5, hx6, hx7] <;> exact rfl) ?_
    show AW _ _ _ _ _
    refine AW.regR1 rfl (by simp (maxSteps := 1000000) only [go_sem, hle, hwn, hx0, hx1, hx2, hx3, hx4, hx5, hx6, hx7] <;> exact rfl) (by simp (disch := omega) only [go_sem, w64, wU, hle, hwn, hx0, hx1, hx2, hx3, hx4, hx5, hx6, hx7] <;> exact rfl) ?_
    show ARounds _ _ _ _ _ _
    refine ARounds.mk ?_
    refine AW.seq ?_
    refine AW.regR rfl (by simp (maxSteps := 1000000) only [go_sem, hle, hwn, hx0, hx1, hx2, hx3, hx4, hx5, hx6, hx7] <;> exact rfl) (by simp (disch := omega) only [go_sem, w64, wU, hle, hwn, hx0, hx1, hx2, hx3, hx4, hx5, hx6, hx7] <;> exact rfl) ?_
    refine AW.condT (by simp (maxSteps := 1000000) only [go_sem, hle, hwn, hx0, hx1, hx2, hx3, hx4, hx5, hx6, hx7] <;> exact rfl) ?_
    refine AW.skip ?_
    show AW _ _ _ _ _
    refine AW.seq ?_
    refine AW.block ?_
    refine AW.reg rfl ?_
    refine ARN.run1 (by simp (maxSteps := 1000000) only [go_sem, hle, hwn, hx0, hx1, hx2, hx3, hx4, hx5, hx6, hx7] <;> exact rfl) ?_
    refine ARN.pcall (fun hp => c96 (s.extract 8 12) (by rw [ByteArray.size_extract]; omega)) rfl (by simp (maxSteps := 1000000) only [go_sem, hle, hwn, hx0, hx1, hx2, hx3, hx4, hx5, hx6, hx7] <;> exact rfl) (by simp only [go_sem]) (by simp (maxSteps := 1000000) only [go_sem, hle, hwn, hx0, hx1, hx2, hx3, hx4, hx5, hx6, hx7] <;> exact rfl) ?_
    refine ARN.run1 (by simp (maxSteps := 1000000) only [go_sem, hle, hwn, hx0, hx1, hx2, hx3, hx4, hx5, hx6, hx7] <;> exact rfl) ?_
    refine ARN.fin1 (by simp (disch := omega) only [go_sem, w64, wU, hle, hwn, hx0, hx1, hx2, hx3, hx4, hx5, hx6, hx7] <;> exact rfl) ?_
    show AW _ _ _ _ _
    refine AW.regR1 rfl (by simp (maxSteps := 1000000) only [go_sem, hle, hwn, hx0, hx1, hx2, hx3, hx4, hx5, hx6, hx7] <;> exact rfl) (by simp (disch := omega) only [go_sem, w64, wU, hle, hwn, hx0, hx1, hx2, hx3, hx4, hx5, hx6, hx7] <;> exact rfl) ?_
    show ARounds _ _ _ _ _ _
    refine ARounds.mk ?_
    refine AW.seq ?_
    refine AW.regR rfl (by simp (maxSteps := 1000000) only [go_sem, hle, hwn, hx0, hx1, hx2, hx3, hx4, hx5, hx6, hx7] <;> exact rfl) (by simp (disch := omega) only [go_sem, w64, wU, hle, hwn, hx0, hx1, hx2, hx3, hx4, hx5, hx6, hx7] <;> exact rfl) ?_
    refine AW.condT (by simp (maxSteps := 1000000) only [go_sem, hle, hwn, hx0, hx1, hx2, hx3, hx4, hx5, hx6, hx7] <;> exact rfl) ?_
    refine AW.skip ?_
    show AW _ _ _ _ _
    refine AW.seq ?_
    refine AW.block ?_
    refine AW.reg rfl ?_
    refine ARN.run1 (by simp (maxSteps := 1000000) only [go_sem, hle, hwn, hx0, hx1, hx2, hx3, hx4, hx5, hx6, hx7] <;> exact rfl) ?_
    refine ARN.pcall (fun hp => c96 (s.extract 12 16) (by rw [ByteArray.size_extract]; omega)) rfl (by simp (maxSteps := 1000000) only [go_sem, hle, hwn, hx0, hx1, hx2, hx3, hx4, hx5, hx6, hx7] <;> exact rfl) (by simp only [go_sem]) (by simp (maxSteps := 1000000) only [go_sem, hle, hwn, hx0, hx1, hx2, hx3, hx4, hx5, hx6, hx7] <;> exact rfl) ?_
    refine ARN.run1 (by simp (maxSteps := 1000000) only [go_sem, hle, hwn, hx0, hx1, hx2, hx3, hx4, hx5, hx6, hx7] <;> exact rfl) ?_
    refine ARN.fin1 (by simp (disch := omega) only [go_sem, w64, wU, hle, hwn, hx0, hx1, hx2, hx3, hx4, hx5, hx6, hx7] <;> exact rfl) ?_
    show AW _ _ _ _ _
    refine AW.regR1 rfl (by simp (maxSteps := 1000000) only [go_sem, hle, hwn, hx0, hx1, hx2, hx3, hx4, hx5, hx6, hx7] <;> exact rfl) (by simp (disch := omega) only [go_sem, w64, wU, hle, hwn, hx0, hx1, hx2, hx3, hx4, hx5, hx6, hx7] <;> exact rfl) ?_
    show ARounds _ _ _ _ _ _
    refine ARounds.mk ?_
    refine AW.seq ?_
    refine AW.regR rfl (by simp (maxSteps := 1000000) only [go_sem, hle, hwn, hx0, hx1, hx2, hx3, hx4, hx5, hx6, hx7] <;> exact rfl) (by simp (disch := omega) only [go_sem, w64, wU, hle, hwn, hx0, hx1, hx2, hx3, hx4, hx5, hx6, hx7] <;> exact rfl) ?_
    refine AW.condT (by simp (maxSteps := 1000000) only [go_sem, hle, hwn, hx0, hx1, hx2, hx3, hx4, hx5, hx6, hx7] <;> exact rfl) ?_
    refine AW.skip ?_
    show AW _ _ _ _ _
    refine AW.seq ?_
    refine AW.block ?_
    refine AW.reg rfl ?_
    refine ARN.run1 (by simp (maxSteps := 1000000) only [go_sem, hle, hwn, hx0, hx1, hx2, hx3, hx4, hx5, hx6, hx7] <;> exact rfl) ?_
    refine ARN.pcall (fun hp => c96 (s.extract 16 20) (by rw [ByteArray.size_extract]; omega)) rfl (by simp (maxSteps := 1000000) only [go_sem, hle, hwn, hx0, hx1, hx2, hx3, hx4, hx5, hx6, hx7] <;> exact rfl) (by simp only [go_sem]) (by simp (maxSteps := 1000000) only [go_sem, hle, hwn, hx0, hx1, hx2, hx3, hx4, hx5, hx6, hx7] <;> exact rfl) ?_
    refine ARN.run1 (by simp (maxSteps := 1000000) only [go_sem, hle, hwn, hx0, hx1, hx2, hx3, hx4, hx5, hx6, hx7] <;> exact rfl) ?_
    refine ARN.fin1 (by simp (disch := omega) only [go_sem, w64, wU, hle, hwn, hx0, hx1, hx2, hx3, hx4, hx5, hx6, hx7] <;> exact rfl) ?_
    show AW _ _ _ _ _
    refine AW.regR1 rfl (by simp (maxSteps := 1000000) only [go_sem, hle, hwn, hx0, hx1, hx2, hx3, hx4, hx5, hx6, hx7] <;> exact rfl) (by simp (disch := omega) only [go_sem, w64, wU, hle, hwn, hx0, hx1, hx2, hx3, hx4, hx5, hx6, hx7] <;> exact rfl) ?_
    show ARounds _ _ _ _ _ _
    refine ARounds.mk ?_
    refine AW.seq ?_
    refine AW.regR rfl (by simp (maxSteps := 1000000) only [go_sem, hle, hwn, hx0, hx1, hx2, hx3, hx4, hx5, hx6, hx7] <;> exact rfl) (by simp (disch := omega) only [go_sem, w64, wU, hle, hwn, hx0, hx1, hx2, hx3, hx4, hx5, hx6, hx7] <;> exact rfl) ?_
    refine AW.condT (by simp (maxSteps := 1000000) only [go_sem, hle, hwn, hx0, hx1, hx2, hx3, hx4, hx5, hx6, hx7] <;> exact rfl) ?_
    refine AW.skip ?_
    show AW _ _ _ _ _
    refine AW.seq ?_
    refine AW.block ?_
    refine AW.reg rfl ?_
    refine ARN.run1 (by simp (maxSteps := 1000000) only [go_sem, hle, hwn, hx0, hx1, hx2, hx3, hx4, hx5, hx6, hx7] <;> exact rfl) ?_
    refine ARN.pcall (fun hp => c96 (s.extract 20 24) (by rw [ByteArray.size_extract]; omega)) rfl (by simp (maxSteps := 1000000) only [go_sem, hle, hwn, hx0, hx1, hx2, hx3, hx4, hx5, hx6, hx7] <;> exact rfl) (by simp only [go_sem]) (by simp (maxSteps := 1000000) only [go_sem, hle, hwn, hx0, hx1, hx2, hx3, hx4, hx5, hx6, hx7] <;> exact rfl) ?_
    refine ARN.run1 (by simp (maxSteps := 1000000) only [go_sem, hle, hwn, hx0, hx1, hx2, hx3, hx4, hx5, hx6, hx7] <;> exact rfl) ?_
    refine ARN.fin1 (by simp (disch := omega) only [go_sem, w64, wU, hle, hwn, hx0, hx1, hx2, hx3, hx4, hx5, hx6, hx7] <;> exact rfl) ?_
    show AW _ _ _ _ _
    refine AW.regR1 rfl (by simp (maxSteps := 1000000) only [go_sem, hle, hwn, hx0, hx1, hx2, hx3, hx4, hx5, hx6, hx7] <;> exact rfl) (by simp (disch := omega) only [go_sem, w64, wU, hle, hwn, hx0, hx1, hx2, hx3, hx4, hx5, hx6, hx7] <;> exact rfl) ?_
    show ARounds _ _ _ _ _ _
    refine ARounds.mk ?_
    refine AW.seq ?_
    refine AW.regR rfl (by simp (maxSteps := 1000000) only [go_sem, hle, hwn, hx0, hx1, hx2, hx3, hx4, hx5, hx6, hx7] <;> exact rfl) (by simp (disch := omega) only [go_sem, w64, wU, hle, hwn, hx0, hx1, hx2, hx3, hx4, hx5, hx6, hx7] <;> exact rfl) ?_
    refine AW.condT (by simp (maxSteps := 1000000) only [go_sem, hle, hwn, hx0, hx1, hx2, hx3, hx4, hx5, hx6, hx7] <;> exact rfl) ?_
    refine AW.skip ?_
    show AW _ _ _ _ _
    refine AW.seq ?_
    refine AW.block ?_
    refine AW.reg rfl ?_
    refine ARN.run1 (by simp (maxSteps := 1000000) only [go_sem, hle, hwn, hx0, hx1, hx2, hx3, hx4, hx5, hx6, hx7] <;> exact rfl) ?_
    refine ARN.pcall (fun hp => c96 (s.extract 24 28) (by rw [ByteArray.size_extract]; omega)) rfl (by simp (maxSteps := 1000000) only [go_sem, hle, hwn, hx0, hx1, hx2, hx3, hx4, hx5, hx6, hx7] <;> exact rfl) (by simp only [go_sem]) (by simp (maxSteps := 1000000) only [go_sem, hle, hwn, hx0, hx1, hx2, hx3, hx4, hx5, hx6, hx7] <;> exact rfl) ?_
    refine ARN.run1 (by simp (maxSteps := 1000000) only [go_sem, hle, hwn, hx0, hx1, hx2, hx3, hx4, hx5, hx6, hx7] <;> exact rfl) ?_
    refine ARN.fin1 (by simp (disch := omega) only [go_sem, w64, wU, hle, hwn, hx0, hx1, hx2, hx3, hx4, hx5, hx6, hx7] <;> exact rfl) ?_
    show AW _ _ _ _ _
    refine AW.regR1 rfl (by simp (maxSteps := 1000000) only [go_sem, hle, hwn, hx0, hx1, hx2, hx3, hx4, hx5, hx6, hx7] <;> exact rfl) (by simp (disch := omega) only [go_sem, w64, wU, hle, hwn, hx0, hx1, hx2, hx3, hx4, hx5, hx6, hx7] <;> exact rfl) ?_
    show ARounds _ _ _ _ _ _
    refine ARounds.mk ?_
    refine AW.seq ?_
    refine AW.regR rfl (by simp (maxSteps := 1000000) only [go_sem, hle, hwn, hx0, hx1, hx2, hx3, hx4, hx5, hx6, hx7] <;> exact rfl) (by simp (disch := omega) only [go_sem, w64, wU, hle, hwn, hx0, hx1, hx2, hx3, hx4, hx5, hx6, hx7] <;> exact rfl) ?_
    refine AW.condT (by simp (maxSteps := 1000000) only [go_sem, hle, hwn, hx0, hx1, hx2, hx3, hx4, hx5, hx6, hx7] <;> exact rfl) ?_
    refine AW.skip ?_
    show AW _ _ _ _ _
    refine AW.seq ?_
    refine AW.block ?_
    refine AW.reg rfl ?_
    refine ARN.run1 (by simp (maxSteps := 1000000) only [go_sem, hle, hwn, hx0, hx1, hx2, hx3, hx4, hx5, hx6, hx7] <;> exact rfl) ?_
    refine ARN.pcall (fun hp => c96 (s.extract 28 32) (by rw [ByteArray.size_extract]; omega)) rfl (by simp (maxSteps := 1000000) only [go_sem, hle, hwn, hx0, hx1, hx2, hx3, hx4, hx5, hx6, hx7] <;> exact rfl) (by simp only [go_sem]) (by simp (maxSteps := 1000000) only [go_sem, hle, hwn, hx0, hx1, hx2, hx3, hx4, hx5, hx6, hx7] <;> exact rfl) ?_
    refine ARN.run1 (by simp (maxSteps := 1000000) only [go_sem, hle, hwn, hx0, hx1, hx2, hx3, hx4, hx5, hx6, hx7] <;> exact rfl) ?_
    refine ARN.fin1 (by simp (disch := omega) only [go_sem, w64, wU, hle, hwn, hx0, hx1, hx2, hx3, hx4, hx5, hx6, hx7] <;> exact rfl) ?_
    show AW _ _ _ _ _
    refine AW.regR1 rfl (by simp (maxSteps := 1000000) only [go_sem, hle, hwn, hx0, hx1, hx2, hx3, hx4, hx5, hx6, hx7] <;> exact rfl) (by simp (disch := omega) only [go_sem, w64, wU, hle, hwn, hx0, hx1, hx2, hx3, hx4, hx5, hx6, hx7] <;> exact rfl) ?_
    show ARounds _ _ _ _ _ _
    refine ARounds.mk ?_
    refine AW.seq ?_
    refine AW.regR rfl (by simp (maxSteps := 1000000) only [go_sem, hle, hwn, hx0, hx1, hx2, hx3, hx4, hx5, hx6, hx7] <;> exact rfl) (by simp (disch := omega) only [go_sem, w64, wU, hle, hwn, hx0, hx1, hx2, hx3, hx4, hx5, hx6, hx7] <;> exact rfl) ?_
    refine AW.condF (by simp (maxSteps := 1000000) only [go_sem, hle, hwn, hx0, hx1, hx2, hx3, hx4, hx5, hx6, hx7] <;> exact rfl) ?_
    refine AW.exit ?_
    show AW _ _ _ _ _
    refine AW.regR rfl (by simp (maxSteps := 1000000) only [go_sem, hle, hwn, hx0, hx1, hx2, hx3, hx4, hx5, hx6, hx7] <;> exact rfl) (by simp (disch := omega) only [go_sem, w64, wU, hle, hwn, hx0, hx1, hx2, hx3, hx4, hx5, hx6, hx7] <;> exact rfl) ?_
    refine AW.seq ?_
    refine AW.regS rfl ?_
    refine ARN.run1 (by simp (maxSteps := 1000000) only [go_sem, hle, hwn, hx0, hx1, hx2, hx3, hx4, hx5, hx6, hx7] <;> exact rfl) ?_
    refine ARN.pcall (fun hp => c28 (num s 0) (num s 1) (num s 2) (num s 3) (num s 4) (num s 5) (num s 6) (num s 7)) rfl (by simp (maxSteps := 1000000) only [go_sem, hle, hwn, hx0, hx1, hx2, hx3, hx4, hx5, hx6, hx7] <;> exact rfl) (by simp only [go_sem]) (by simp (maxSteps := 1000000) only [go_sem, hle, hwn, hx0, hx1, hx2, hx3, hx4, hx5, hx6, hx7] <;> exact rfl) ?_
    refine ARN.run1 (by simp (maxSteps := 1000000) only [go_sem, hle, hwn, hx0, hx1, hx2, hx3, hx4, hx5, hx6, hx7] <;> exact rfl) ?_
    refine ARN.fin (by simp (disch := omega) only [go_sem, w64, wU, hle, hwn, hx0, hx1, hx2, hx3, hx4, hx5, hx6, hx7] <;> exact rfl) ?_
    refine AW.regR rfl (by simp (maxSteps := 1000000) only [go_sem, hle, hwn, hx0, hx1, hx2, hx3, hx4, hx5, hx6, hx7] <;> exact rfl) (by simp (disch := omega) only [go_sem, w64, wU, hle, hwn, hx0, hx1, hx2, hx3, hx4, hx5, hx6, hx7] <;> exact rfl) ?_
    refine AW.cond (by simp (maxSteps := 1000000) only [go_sem, hle, hwn, hx0, hx1, hx2, hx3, hx4, hx5, hx6, hx7] <;> exact rfl) (fun hc2 => ?_) (fun hc2 => ?_)
    · try simp only [decide_eq_true_eq, decide_eq_false_iff_not, Bool.or_eq_true, Bool.or_eq_false_iff, Bool.and_eq_true, Bool.and_eq_false_imp, Bool.not_eq_true', Bool.not_eq_false'] at hc2
      refine AW.regR rfl (by simp (maxSteps := 1000000) only [go_sem, hle, hwn, hx0, hx1, hx2, hx3, hx4, hx5, hx6, hx7] <;> exact rfl) (by simp (disch := omega) only [go_sem, w64, wU, hle, hwn, hx0, hx1, hx2, hx3, hx4, hx5, hx6, hx7] <;> exact rfl) ?_
      refine retK.fin rfl (by simp (maxSteps := 1000000) only [go_sem, hle, hwn, hx0, hx1, hx2, hx3, hx4, hx5, hx6, hx7] <;> exact rfl) (by simp (maxSteps := 1000000) only [go_sem, hle, hwn, hx0, hx1, hx2, hx3, hx4, hx5, hx6, hx7] <;> exact rfl) (.of ?_)
      have he : errS s = chkS s := by (unfold errS; rw [if_neg (by omega)])
      have hc : ¬ chkS s = 0 := hc2
      simp only [rdS, restS, he, if_neg hc]; rfl
    · try simp only [decide_eq_true_eq, decide_eq_false_iff_not, Bool.or_eq_true, Bool.or_eq_false_iff, Bool.and_eq_true, Bool.and_eq_false_imp, Bool.not_eq_true', Bool.not_eq_false'] at hc2
      refine AW.skip ?_
      show AW _ _ _ _ _
      refine AW.regDS follows (by kernel_rfl) ?_
      refine ARE.run1 (by simp (maxSteps := 1000000) only [go_sem, hle, hwn, hx0, hx1, hx2, hx3, hx4, hx5, hx6, hx7] <;> exact rfl) ?_
      refine ARE.fin [0, 0, 2, 1, 15, 31] _ (by kernel_rfl) (by simp (maxSteps := 1000000) only [go_sem, hle, hwn, hx0, hx1, hx2, hx3, hx4, hx5, hx6, hx7] <;> exact rfl) (by kernel_rfl) (by simp (disch := omega) only [go_sem, w64, wU, hle, hwn, hx0, hx1, hx2, hx3, hx4, hx5, hx6, hx7] <;> exact rfl) ?_
      refine retK.fin rfl (by simp (maxSteps := 1000000) only [go_sem, hle, hwn, hx0, hx1, hx2, hx3, hx4, hx5, hx6, hx7] <;> exact rfl) (by simp (maxSteps := 1000000) only [go_sem, hle, hwn, hx0, hx1, hx2, hx3, hx4, hx5, hx6, hx7] <;> exact rfl) (.of ?_)
      have he : errS s = chkS s := by (unfold errS; rw [if_neg (by omega)])
      have hc : chkS s = 0 := by first | exact hc2 | exact Classical.not_not.1 hc2
      simp only [rdS, restS, he, hc, if_true]
end Go.Ab.Try
