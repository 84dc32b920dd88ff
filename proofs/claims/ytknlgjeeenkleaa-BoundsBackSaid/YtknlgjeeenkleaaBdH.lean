/- Bounds read; the laws. -/
import Derived.Test.YtknlgjeeenkleaaBdG
namespace Go.Ab.Try
open Go.Proofs Go.Ab
set_option linter.unusedVariables false
set_option linter.unusedSimpArgs false
set_option maxRecDepth 100000
set_option maxHeartbeats 2000000 in
theorem c30 (s : ByteArray) : PC Try.prog 30 [.str s] (.tup [.agg [.int .i64 (rdS s 0), .int .i64 (rdS s 1), .int .i64 (rdS s 2), .int .i64 (rdS s 3), .int .i64 (rdS s 4), .int .i64 (rdS s 5), .int .i64 (rdS s 6), .int .i64 (rdS s 7)], .str (restS s), .int .i64 (errS s)]) := by
  refine PC.start 57 Try.call30 Try.func30 rfl Try.ntmps30 Try.results30 (by simp only [go_sem]; exact rfl) fun z hz => ?_
  refine AW.regR rfl (by simp (maxSteps := 1000000) only [go_sem, bo1, bo2, bo3, bo4, wbat] <;> exact rfl) (by simp (disch := omega) only [go_sem, w64, wU, bo1, bo2, bo3, bo4, wbat] <;> exact rfl) ?_
  refine AW.seq ?_
  refine AW.regR rfl (by simp (maxSteps := 1000000) only [go_sem, bo1, bo2, bo3, bo4, wbat] <;> exact rfl) (by simp (disch := omega) only [go_sem, w64, wU, bo1, bo2, bo3, bo4, wbat] <;> exact rfl) ?_
  refine AW.cond (by simp (maxSteps := 1000000) only [go_sem, bo1, bo2, bo3, bo4, wbat] <;> exact rfl) (fun hc1 => ?_) (fun hc1 => ?_)
  · try simp only [decide_eq_true_eq, decide_eq_false_iff_not, Bool.or_eq_true, Bool.or_eq_false_iff, Bool.and_eq_true, Bool.and_eq_false_imp, Bool.not_eq_true', Bool.not_eq_false'] at hc1
    refine AW.regR rfl (by simp (maxSteps := 1000000) only [go_sem, bo1, bo2, bo3, bo4, wbat] <;> exact rfl) (by simp (disch := omega) only [go_sem, w64, wU, bo1, bo2, bo3, bo4, wbat] <;> exact rfl) ?_
    refine retK.fin rfl (by simp (maxSteps := 1000000) only [go_sem, bo1, bo2, bo3, bo4, wbat] <;> exact rfl) (by simp (maxSteps := 1000000) only [go_sem, bo1, bo2, bo3, bo4, wbat] <;> exact rfl) (.of ?_)
    have he : errS s = 6 := by (unfold errS; rw [if_pos (by omega)])
    simp [rdS, restS, he]
  · try simp only [decide_eq_true_eq, decide_eq_false_iff_not, Bool.or_eq_true, Bool.or_eq_false_iff, Bool.and_eq_true, Bool.and_eq_false_imp, Bool.not_eq_true', Bool.not_eq_false'] at hc1
    refine AW.skip ?_
    show AW _ _ _ _ _
    have hs : 32 ≤ s.size := by omega
    have hle : ∀ j : Int, j ≤ 32 → (j ≤ (s.size : Int)) = True := fun j hj => by simp; omega
    have hlt : ∀ j : Int, j < 32 → (j < (s.size : Int)) = True := fun j hj => by simp; omega
    refine AW.regR rfl (by simp (maxSteps := 1000000) only [go_sem, bo1, bo2, bo3, bo4, wbat, hle, hlt] <;> exact rfl) (by simp (disch := omega) only [go_sem, w64, wU, bo1, bo2, bo3, bo4, wbat, hle, hlt] <;> exact rfl) ?_
    refine AW.seq ?_
    refine AW.regR rfl (by simp (maxSteps := 1000000) only [go_sem, bo1, bo2, bo3, bo4, wbat, hle, hlt] <;> exact rfl) (by simp (disch := omega) only [go_sem, w64, wU, bo1, bo2, bo3, bo4, wbat, hle, hlt] <;> exact rfl) ?_
    refine AW.block ?_
    refine AW.rounds 33 ?_
    refine ARounds.mk ?_
    refine AW.regR rfl (by simp (maxSteps := 1000000) only [go_sem, bo1, bo2, bo3, bo4, wbat, hle, hlt] <;> exact rfl) (by simp (disch := omega) only [go_sem, w64, wU, bo1, bo2, bo3, bo4, wbat, hle, hlt] <;> exact rfl) ?_
    refine AW.seq ?_
    refine AW.condT (by simp (maxSteps := 1000000) only [go_sem, bo1, bo2, bo3, bo4, wbat, hle, hlt] <;> exact rfl) ?_
    refine AW.skip ?_
    show AW _ _ _ _ _
    refine AW.seq ?_
    refine AW.block ?_
    refine AW.regR rfl (by simp (maxSteps := 1000000) only [go_sem, bo1, bo2, bo3, bo4, wbat, hle, hlt] <;> exact rfl) (by simp (disch := omega) only [go_sem, w64, wU, bo1, bo2, bo3, bo4, wbat, hle, hlt] <;> exact rfl) ?_
    refine AW.regD1 follows (by kernel_rfl) ?_
    refine ARE.run1 (by simp (maxSteps := 1000000) only [go_sem, bo1, bo2, bo3, bo4, wbat, hle, hlt] <;> exact rfl) ?_
    refine ARE.fin1 [0, 1, 0, 4, 12, 28, 60, 0, 0, 384, 896, 2044, 4095, 8191] _ (by kernel_rfl) (by simp (maxSteps := 1000000) only [go_sem, bo1, bo2, bo3, bo4, wbat, hle, hlt] <;> exact rfl) (by kernel_rfl) (by simp (disch := omega) only [go_sem, w64, wU, bo1, bo2, bo3, bo4, wbat, hle, hlt] <;> exact rfl) ?_
    show AW _ _ _ _ _
    refine AW.regR1 rfl (by simp (maxSteps := 1000000) only [go_sem, bo1, bo2, bo3, bo4, wbat, hle, hlt] <;> exact rfl) (by simp (disch := omega) only [go_sem, w64, wU, bo1, bo2, bo3, bo4, wbat, hle, hlt] <;> exact rfl) ?_
    show ARounds _ _ _ _ _ _
    refine ARounds.mk ?_
    refine AW.regR rfl (by simp (maxSteps := 1000000) only [go_sem, bo1, bo2, bo3, bo4, wbat, hle, hlt] <;> exact rfl) (by simp (disch := omega) only [go_sem, w64, wU, bo1, bo2, bo3, bo4, wbat, hle, hlt] <;> exact rfl) ?_
    refine AW.seq ?_
    refine AW.condT (by simp (maxSteps := 1000000) only [go_sem, bo1, bo2, bo3, bo4, wbat, hle, hlt] <;> exact rfl) ?_
    refine AW.skip ?_
    show AW _ _ _ _ _
    refine AW.seq ?_
    refine AW.block ?_
    refine AW.regR rfl (by simp (maxSteps := 1000000) only [go_sem, bo1, bo2, bo3, bo4, wbat, hle, hlt] <;> exact rfl) (by simp (disch := omega) only [go_sem, w64, wU, bo1, bo2, bo3, bo4, wbat, hle, hlt] <;> exact rfl) ?_
    refine AW.regD1 follows (by kernel_rfl) ?_
    refine ARE.run1 (by simp (maxSteps := 1000000) only [go_sem, bo1, bo2, bo3, bo4, wbat, hle, hlt] <;> exact rfl) ?_
    refine ARE.fin1 [0, 1, 0, 4, 12, 28, 60, 0, 0, 384, 896, 2044, 4095, 8191] _ (by kernel_rfl) (by simp (maxSteps := 1000000) only [go_sem, bo1, bo2, bo3, bo4, wbat, hle, hlt] <;> exact rfl) (by kernel_rfl) (by simp (disch := omega) only [go_sem, w64, wU, bo1, bo2, bo3, bo4, wbat, hle, hlt] <;> exact rfl) ?_
    show AW _ _ _ _ _
    refine AW.regR1 rfl (by simp (maxSteps := 1000000) only [go_sem, bo1, bo2, bo3, bo4, wbat, hle, hlt] <;> exact rfl) (by simp (disch := omega) only [go_sem, w64, wU, bo1, bo2, bo3, bo4, wbat, hle, hlt] <;> exact rfl) ?_
    show ARounds _ _ _ _ _ _
    refine ARounds.mk ?_
    refine AW.regR rfl (by simp (maxSteps := 1000000) only [go_sem, bo1, bo2, bo3, bo4, wbat, hle, hlt] <;> exact rfl) (by simp (disch := omega) only [go_sem, w64, wU, bo1, bo2, bo3, bo4, wbat, hle, hlt] <;> exact rfl) ?_
    refine AW.seq ?_
    refine AW.condT (by simp (maxSteps := 1000000) only [go_sem, bo1, bo2, bo3, bo4, wbat, hle, hlt] <;> exact rfl) ?_
    refine AW.skip ?_
    show AW _ _ _ _ _
    refine AW.seq ?_
    refine AW.block ?_
    refine AW.regR rfl (by simp (maxSteps := 1000000) only [go_sem, bo1, bo2, bo3, bo4, wbat, hle, hlt] <;> exact rfl) (by simp (disch := omega) only [go_sem, w64, wU, bo1, bo2, bo3, bo4, wbat, hle, hlt] <;> exact rfl) ?_
    refine AW.regD1 follows (by kernel_rfl) ?_
    refine ARE.run1 (by simp (maxSteps := 1000000) only [go_sem, bo1, bo2, bo3, bo4, wbat, hle, hlt] <;> exact rfl) ?_
    refine ARE.fin1 [0, 1, 0, 4, 12, 28, 60, 0, 0, 384, 896, 2044, 4095, 8191] _ (by kernel_rfl) (by simp (maxSteps := 1000000) only [go_sem, bo1, bo2, bo3, bo4, wbat, hle, hlt] <;> exact rfl) (by kernel_rfl) (by simp (disch := omega) only [go_sem, w64, wU, bo1, bo2, bo3, bo4, wbat, hle, hlt] <;> exact rfl) ?_
    show AW _ _ _ _ _
    refine AW.regR1 rfl (by simp (maxSteps := 1000000) only [go_sem, bo1, bo2, bo3, bo4, wbat, hle, hlt] <;> exact rfl) (by simp (disch := omega) only [go_sem, w64, wU, bo1, bo2, bo3, bo4, wbat, hle, hlt] <;> exact rfl) ?_
    show ARounds _ _ _ _ _ _
    refine ARounds.mk ?_
    refine AW.regR rfl (by simp (maxSteps := 1000000) only [go_sem, bo1, bo2, bo3, bo4, wbat, hle, hlt] <;> exact rfl) (by simp (disch := omega) only [go_sem, w64, wU, bo1, bo2, bo3, bo4, wbat, hle, hlt] <;> exact rfl) ?_
    refine AW.seq ?_
    refine AW.condT (by simp (maxSteps := 1000000) only [go_sem, bo1, bo2, bo3, bo4, wbat, hle, hlt] <;> exact rfl) ?_
    refine AW.skip ?_
    show AW _ _ _ _ _
    refine AW.seq ?_
    refine AW.block ?_
    refine AW.regR rfl (by simp (maxSteps := 1000000) only [go_sem, bo1, bo2, bo3, bo4, wbat, hle, hlt] <;> exact rfl) (by simp (disch := omega) only [go_sem, w64, wU, bo1, bo2, bo3, bo4, wbat, hle, hlt] <;> exact rfl) ?_
    refine AW.regD1 follows (by kernel_rfl) ?_
    refine ARE.run1 (by simp (maxSteps := 1000000) only [go_sem, bo1, bo2, bo3, bo4, wbat, hle, hlt] <;> exact rfl) ?_
    refine ARE.fin1 [0, 1, 0, 4, 12, 28, 60, 0, 0, 384, 896, 2044, 4095, 8191] _ (by kernel_rfl) (by simp (maxSteps := 1000000) only [go_sem, bo1, bo2, bo3, bo4, wbat, hle, hlt] <;> exact rfl) (by kernel_rfl) (by simp (disch := omega) only [go_sem, w64, wU, bo1, bo2, bo3, bo4, wbat, hle, hlt] <;> exact rfl) ?_
    show AW _ _ _ _ _
    refine AW.regR1 rfl (by simp (maxSteps := 1000000) only [go_sem, bo1, bo2, bo3, bo4, wbat, hle, hlt] <;> exact rfl) (by simp (disch := omega) only [go_sem, w64, wU, bo1, bo2, bo3, bo4, wbat, hle, hlt] <;> exact rfl) ?_
    show ARounds _ _ _ _ _ _
    refine ARounds.mk ?_
    refine AW.regR rfl (by simp (maxSteps := 1000000) only [go_sem, bo1, bo2, bo3, bo4, wbat, hle, hlt] <;> exact rfl) (by simp (disch := omega) only [go_sem, w64, wU, bo1, bo2, bo3, bo4, wbat, hle, hlt] <;> exact rfl) ?_
    refine AW.seq ?_
    refine AW.condT (by simp (maxSteps := 1000000) only [go_sem, bo1, bo2, bo3, bo4, wbat, hle, hlt] <;> exact rfl) ?_
    refine AW.skip ?_
    show AW _ _ _ _ _
    refine AW.seq ?_
    refine AW.block ?_
    refine AW.regR rfl (by simp (maxSteps := 1000000) only [go_sem, bo1, bo2, bo3, bo4, wbat, hle, hlt] <;> exact rfl) (by simp (disch := omega) only [go_sem, w64, wU, bo1, bo2, bo3, bo4, wbat, hle, hlt] <;> exact rfl) ?_
    refine AW.regD1 follows (by kernel_rfl) ?_
    refine ARE.run1 (by simp (maxSteps := 1000000) only [go_sem, bo1, bo2, bo3, bo4, wbat, hle, hlt] <;> exact rfl) ?_
    refine ARE.fin1 [0, 1, 0, 4, 12, 28, 60, 0, 0, 384, 896, 2044, 4095, 8191] _ (by kernel_rfl) (by simp (maxSteps := 1000000) only [go_sem, bo1, bo2, bo3, bo4, wbat, hle, hlt] <;> exact rfl) (by kernel_rfl) (by simp (disch := omega) only [go_sem, w64, wU, bo1, bo2, bo3, bo4, wbat, hle, hlt] <;> exact rfl) ?_
    show AW _ _ _ _ _
    refine AW.regR1 rfl (by simp (maxSteps := 1000000) only [go_sem, bo1, bo2, bo3, bo4, wbat, hle, hlt] <;> exact rfl) (by simp (disch := omega) only [go_sem, w64, wU, bo1, bo2, bo3, bo4, wbat, hle, hlt] <;> exact rfl) ?_
    show ARounds _ _ _ _ _ _
    refine ARounds.mk ?_
    refine AW.regR rfl (by simp (maxSteps := 1000000) only [go_sem, bo1, bo2, bo3, bo4, wbat, hle, hlt] <;> exact rfl) (by simp (disch := omega) only [go_sem, w64, wU, bo1, bo2, bo3, bo4, wbat, hle, hlt] <;> exact rfl) ?_
    refine AW.seq ?_
    refine AW.condT (by simp (maxSteps := 1000000) only [go_sem, bo1, bo2, bo3, bo4, wbat, hle, hlt] <;> exact rfl) ?_
    refine AW.skip ?_
    show AW _ _ _ _ _
    refine AW.seq ?_
    refine AW.block ?_
    refine AW.regR rfl (by simp (maxSteps := 1000000) only [go_sem, bo1, bo2, bo3, bo4, wbat, hle, hlt] <;> exact rfl) (by simp (disch := omega) only [go_sem, w64, wU, bo1, bo2, bo3, bo4, wbat, hle, hlt] <;> exact rfl) ?_
    refine AW.regD1 follows (by kernel_rfl) ?_
    refine ARE.run1 (by simp (maxSteps := 1000000) only [go_sem, bo1, bo2, bo3, bo4, wbat, hle, hlt] <;> exact rfl) ?_
    refine ARE.fin1 [0, 1, 0, 4, 12, 28, 60, 0, 0, 384, 896, 2044, 4095, 8191] _ (by kernel_rfl) (by simp (maxSteps := 1000000) only [go_sem, bo1, bo2, bo3, bo4, wbat, hle, hlt] <;> exact rfl) (by kernel_rfl) (by simp (disch := omega) only [go_sem, w64, wU, bo1, bo2, bo3, bo4, wbat, hle, hlt] <;> exact rfl) ?_
    show AW _ _ _ _ _
    refine AW.regR1 rfl (by simp (maxSteps := 1000000) only [go_sem, bo1, bo2, bo3, bo4, wbat, hle, hlt] <;> exact rfl) (by simp (disch := omega) only [go_sem, w64, wU, bo1, bo2, bo3, bo4, wbat, hle, hlt] <;> exact rfl) ?_
    show ARounds _ _ _ _ _ _
    refine ARounds.mk ?_
    refine AW.regR rfl (by simp (maxSteps := 1000000) only [go_sem, bo1, bo2, bo3, bo4, wbat, hle, hlt] <;> exact rfl) (by simp (disch := omega) only [go_sem, w64, wU, bo1, bo2, bo3, bo4, wbat, hle, hlt] <;> exact rfl) ?_
    refine AW.seq ?_
    refine AW.condT (by simp (maxSteps := 1000000) only [go_sem, bo1, bo2, bo3, bo4, wbat, hle, hlt] <;> exact rfl) ?_
    refine AW.skip ?_
    show AW _ _ _ _ _
    refine AW.seq ?_
    refine AW.block ?_
    refine AW.regR rfl (by simp (maxSteps := 1000000) only [go_sem, bo1, bo2, bo3, bo4, wbat, hle, hlt] <;> exact rfl) (by simp (disch := omega) only [go_sem, w64, wU, bo1, bo2, bo3, bo4, wbat, hle, hlt] <;> exact rfl) ?_
    refine AW.regD1 follows (by kernel_rfl) ?_
    refine ARE.run1 (by simp (maxSteps := 1000000) only [go_sem, bo1, bo2, bo3, bo4, wbat, hle, hlt] <;> exact rfl) ?_
    refine ARE.fin1 [0, 1, 0, 4, 12, 28, 60, 0, 0, 384, 896, 2044, 4095, 8191] _ (by kernel_rfl) (by simp (maxSteps := 1000000) only [go_sem, bo1, bo2, bo3, bo4, wbat, hle, hlt] <;> exact rfl) (by kernel_rfl) (by simp (disch := omega) only [go_sem, w64, wU, bo1, bo2, bo3, bo4, wbat, hle, hlt] <;> exact rfl) ?_
    show AW _ _ _ _ _
    refine AW.regR1 rfl (by simp (maxSteps := 1000000) only [go_sem, bo1, bo2, bo3, bo4, wbat, hle, hlt] <;> exact rfl) (by simp (disch := omega) only [go_sem, w64, wU, bo1, bo2, bo3, bo4, wbat, hle, hlt] <;> exact rfl) ?_
    show ARounds _ _ _ _ _ _
    refine ARounds.mk ?_
    refine AW.regR rfl (by simp (maxSteps := 1000000) only [go_sem, bo1, bo2, bo3, bo4, wbat, hle, hlt] <;> exact rfl) (by simp (disch := omega) only [go_sem, w64, wU, bo1, bo2, bo3, bo4, wbat, hle, hlt] <;> exact rfl) ?_
    refine AW.seq ?_
    refine AW.condT (by simp (maxSteps := 1000000) only [go_sem, bo1, bo2, bo3, bo4, wbat, hle, hlt] <;> exact rfl) ?_
    refine AW.skip ?_
    show AW _ _ _ _ _
    refine AW.seq ?_
    refine AW.block ?_
    refine AW.regR rfl (by simp (maxSteps := 1000000) only [go_sem, bo1, bo2, bo3, bo4, wbat, hle, hlt] <;> exact rfl) (by simp (disch := omega) only [go_sem, w64, wU, bo1, bo2, bo3, bo4, wbat, hle, hlt] <;> exact rfl) ?_
    refine AW.regD1 follows (by kernel_rfl) ?_
    refine ARE.run1 (by simp (maxSteps := 1000000) only [go_sem, bo1, bo2, bo3, bo4, wbat, hle, hlt] <;> exact rfl) ?_
    refine ARE.fin1 [0, 1, 0, 4, 12, 28, 60, 0, 0, 384, 896, 2044, 4095, 8191] _ (by kernel_rfl) (by simp (maxSteps := 1000000) only [go_sem, bo1, bo2, bo3, bo4, wbat, hle, hlt] <;> exact rfl) (by kernel_rfl) (by simp (disch := omega) only [go_sem, w64, wU, bo1, bo2, bo3, bo4, wbat, hle, hlt] <;> exact rfl) ?_
    show AW _ _ _ _ _
    refine AW.regR1 rfl (by simp (maxSteps := 1000000) only [go_sem, bo1, bo2, bo3, bo4, wbat, hle, hlt] <;> exact rfl) (by simp (disch := omega) only [go_sem, w64, wU, bo1, bo2, bo3, bo4, wbat, hle, hlt] <;> exact rfl) ?_
    show ARounds _ _ _ _ _ _
    refine ARounds.mk ?_
    refine AW.regR rfl (by simp (maxSteps := 1000000) only [go_sem, bo1, bo2, bo3, bo4, wbat, hle, hlt] <;> exact rfl) (by simp (disch := omega) only [go_sem, w64, wU, bo1, bo2, bo3, bo4, wbat, hle, hlt] <;> exact rfl) ?_
    refine AW.seq ?_
    refine AW.condT (by simp (maxSteps := 1000000) only [go_sem, bo1, bo2, bo3, bo4, wbat, hle, hlt] <;> exact rfl) ?_
    refine AW.skip ?_
    show AW _ _ _ _ _
    refine AW.seq ?_
    refine AW.block ?_
    refine AW.regR rfl (by simp (maxSteps := 1000000) only [go_sem, bo1, bo2, bo3, bo4, wbat, hle, hlt] <;> exact rfl) (by simp (disch := omega) only [go_sem, w64, wU, bo1, bo2, bo3, bo4, wbat, hle, hlt] <;> exact rfl) ?_
    refine AW.regD1 follows (by kernel_rfl) ?_
    refine ARE.run1 (by simp (maxSteps := 1000000) only [go_sem, bo1, bo2, bo3, bo4, wbat, hle, hlt] <;> exact rfl) ?_
    refine ARE.fin1 [0, 1, 0, 4, 12, 28, 60, 0, 0, 384, 896, 2044, 4095, 8191] _ (by kernel_rfl) (by simp (maxSteps := 1000000) only [go_sem, bo1, bo2, bo3, bo4, wbat, hle, hlt] <;> exact rfl) (by kernel_rfl) (by simp (disch := omega) only [go_sem, w64, wU, bo1, bo2, bo3, bo4, wbat, hle, hlt] <;> exact rfl) ?_
    show AW _ _ _ _ _
    refine AW.regR1 rfl (by simp (maxSteps := 1000000) only [go_sem, bo1, bo2, bo3, bo4, wbat, hle, hlt] <;> exact rfl) (by simp (disch := omega) only [go_sem, w64, wU, bo1, bo2, bo3, bo4, wbat, hle, hlt] <;> exact rfl) ?_
    show ARounds _ _ _ _ _ _
    refine ARounds.mk ?_
    refine AW.regR rfl (by simp (maxSteps := 1000000) only [go_sem, bo1, bo2, bo3, bo4, wbat, hle, hlt] <;> exact rfl) (by simp (disch := omega) only [go_sem, w64, wU, bo1, bo2, bo3, bo4, wbat, hle, hlt] <;> exact rfl) ?_
    refine AW.seq ?_
    refine AW.condT (by simp (maxSteps := 1000000) only [go_sem, bo1, bo2, bo3, bo4, wbat, hle, hlt] <;> exact rfl) ?_
    refine AW.skip ?_
    show AW _ _ _ _ _
    refine AW.seq ?_
    refine AW.block ?_
    refine AW.regR rfl (by simp (maxSteps := 1000000) only [go_sem, bo1, bo2, bo3, bo4, wbat, hle, hlt] <;> exact rfl) (by simp (disch := omega) only [go_sem, w64, wU, bo1, bo2, bo3, bo4, wbat, hle, hlt] <;> exact rfl) ?_
    refine AW.regD1 follows (by kernel_rfl) ?_
    refine ARE.run1 (by simp (maxSteps := 1000000) only [go_sem, bo1, bo2, bo3, bo4, wbat, hle, hlt] <;> exact rfl) ?_
    refine ARE.fin1 [0, 1, 0, 4, 12, 28, 60, 0, 0, 384, 896, 2044, 4095, 8191] _ (by kernel_rfl) (by simp (maxSteps := 1000000) only [go_sem, bo1, bo2, bo3, bo4, wbat, hle, hlt] <;> exact rfl) (by kernel_rfl) (by simp (disch := omega) only [go_sem, w64, wU, bo1, bo2, bo3, bo4, wbat, hle, hlt] <;> exact rfl) ?_
    show AW _ _ _ _ _
    refine AW.regR1 rfl (by simp (maxSteps := 1000000) only [go_sem, bo1, bo2, bo3, bo4, wbat, hle, hlt] <;> exact rfl) (by simp (disch := omega) only [go_sem, w64, wU, bo1, bo2, bo3, bo4, wbat, hle, hlt] <;> exact rfl) ?_
    show ARounds _ _ _ _ _ _
    refine ARounds.mk ?_
    refine AW.regR rfl (by simp (maxSteps := 1000000) only [go_sem, bo1, bo2, bo3, bo4, wbat, hle, hlt] <;> exact rfl) (by simp (disch := omega) only [go_sem, w64, wU, bo1, bo2, bo3, bo4, wbat, hle, hlt] <;> exact rfl) ?_
    refine AW.seq ?_
    refine AW.condT (by simp (maxSteps := 1000000) only [go_sem, bo1, bo2, bo3, bo4, wbat, hle, hlt] <;> exact rfl) ?_
    refine AW.skip ?_
    show AW _ _ _ _ _
    refine AW.seq ?_
    refine AW.block ?_
    refine AW.regR rfl (by simp (maxSteps := 1000000) only [go_sem, bo1, bo2, bo3, bo4, wbat, hle, hlt] <;> exact rfl) (by simp (disch := omega) only [go_sem, w64, wU, bo1, bo2, bo3, bo4, wbat, hle, hlt] <;> exact rfl) ?_
    refine AW.regD1 follows (by kernel_rfl) ?_
    refine ARE.run1 (by simp (maxSteps := 1000000) only [go_sem, bo1, bo2, bo3, bo4, wbat, hle, hlt] <;> exact rfl) ?_
    refine ARE.fin1 [0, 1, 0, 4, 12, 28, 60, 0, 0, 384, 896, 2044, 4095, 8191] _ (by kernel_rfl) (by simp (maxSteps := 1000000) only [go_sem, bo1, bo2, bo3, bo4, wbat, hle, hlt] <;> exact rfl) (by kernel_rfl) (by simp (disch := omega) only [go_sem, w64, wU, bo1, bo2, bo3, bo4, wbat, hle, hlt] <;> exact rfl) ?_
    show AW _ _ _ _ _
    refine AW.regR1 rfl (by simp (maxSteps := 1000000) only [go_sem, bo1, bo2, bo3, bo4, wbat, hle, hlt] <;> exact rfl) (by simp (disch := omega) only [go_sem, w64, wU, bo1, bo2, bo3, bo4, wbat, hle, hlt] <;> exact rfl) ?_
    show ARounds _ _ _ _ _ _
    refine ARounds.mk ?_
    refine AW.regR rfl (by simp (maxSteps := 1000000) only [go_sem, bo1, bo2, bo3, bo4, wbat, hle, hlt] <;> exact rfl) (by simp (disch := omega) only [go_sem, w64, wU, bo1, bo2, bo3, bo4, wbat, hle, hlt] <;> exact rfl) ?_
    refine AW.seq ?_
    refine AW.condT (by simp (maxSteps := 1000000) only [go_sem, bo1, bo2, bo3, bo4, wbat, hle, hlt] <;> exact rfl) ?_
    refine AW.skip ?_
    show AW _ _ _ _ _
    refine AW.seq ?_
    refine AW.block ?_
    refine AW.regR rfl (by simp (maxSteps := 1000000) only [go_sem, bo1, bo2, bo3, bo4, wbat, hle, hlt] <;> exact rfl) (by simp (disch := omega) only [go_sem, w64, wU, bo1, bo2, bo3, bo4, wbat, hle, hlt] <;> exact rfl) ?_
    refine AW.regD1 follows (by kernel_rfl) ?_
    refine ARE.run1 (by simp (maxSteps := 1000000) only [go_sem, bo1, bo2, bo3, bo4, wbat, hle, hlt] <;> exact rfl) ?_
    refine ARE.fin1 [0, 1, 0, 4, 12, 28, 60, 0, 0, 384, 896, 2044, 4095, 8191] _ (by kernel_rfl) (by simp (maxSteps := 1000000) only [go_sem, bo1, bo2, bo3, bo4, wbat, hle, hlt] <;> exact rfl) (by kernel_rfl) (by simp (disch := omega) only [go_sem, w64, wU, bo1, bo2, bo3, bo4, wbat, hle, hlt] <;> exact rfl) ?_
    show AW _ _ _ _ _
    refine AW.regR1 rfl (by simp (maxSteps := 1000000) only [go_sem, bo1, bo2, bo3, bo4, wbat, hle, hlt] <;> exact rfl) (by simp (disch := omega) only [go_sem, w64, wU, bo1, bo2, bo3, bo4, wbat, hle, hlt] <;> exact rfl) ?_
    show ARounds _ _ _ _ _ _
    refine ARounds.mk ?_
    refine AW.regR rfl (by simp (maxSteps := 1000000) only [go_sem, bo1, bo2, bo3, bo4, wbat, hle, hlt] <;> exact rfl) (by simp (disch := omega) only [go_sem, w64, wU, bo1, bo2, bo3, bo4, wbat, hle, hlt] <;> exact rfl) ?_
    refine AW.seq ?_
    refine AW.condT (by simp (maxSteps := 1000000) only [go_sem, bo1, bo2, bo3, bo4, wbat, hle, hlt] <;> exact rfl) ?_
    refine AW.skip ?_
    show AW _ _ _ _ _
    refine AW.seq ?_
    refine AW.block ?_
    refine AW.regR rfl (by simp (maxSteps := 1000000) only [go_sem, bo1, bo2, bo3, bo4, wbat, hle, hlt] <;> exact rfl) (by simp (disch := omega) only [go_sem, w64, wU, bo1, bo2, bo3, bo4, wbat, hle, hlt] <;> exact rfl) ?_
    refine AW.regD1 follows (by kernel_rfl) ?_
    refine ARE.run1 (by simp (maxSteps := 1000000) only [go_sem, bo1, bo2, bo3, bo4, wbat, hle, hlt] <;> exact rfl) ?_
    refine ARE.fin1 [0, 1, 0, 4, 12, 28, 60, 0, 0, 384, 896, 2044, 4095, 8191] _ (by kernel_rfl) (by simp (maxSteps := 1000000) only [go_sem, bo1, bo2, bo3, bo4, wbat, hle, hlt] <;> exact rfl) (by kernel_rfl) (by simp (disch := omega) only [go_sem, w64, wU, bo1, bo2, bo3, bo4, wbat, hle, hlt] <;> exact rfl) ?_
    show AW _ _ _ _ _
    refine AW.regR1 rfl (by simp (maxSteps := 1000000) only [go_sem, bo1, bo2, bo3, bo4, wbat, hle, hlt] <;> exact rfl) (by simp (disch := omega) only [go_sem, w64, wU, bo1, bo2, bo3, bo4, wbat, hle, hlt] <;> exact rfl) ?_
    show ARounds _ _ _ _ _ _
    refine ARounds.mk ?_
    refine AW.regR rfl (by simp (maxSteps := 1000000) only [go_sem, bo1, bo2, bo3, bo4, wbat, hle, hlt] <;> exact rfl) (by simp (disch := omega) only [go_sem, w64, wU, bo1, bo2, bo3, bo4, wbat, hle, hlt] <;> exact rfl) ?_
    refine AW.seq ?_
    refine AW.condT (by simp (maxSteps := 1000000) only [go_sem, bo1, bo2, bo3, bo4, wbat, hle, hlt] <;> exact rfl) ?_
    refine AW.skip ?_
    show AW _ _ _ _ _
    refine AW.seq ?_
    refine AW.block ?_
    refine AW.regR rfl (by simp (maxSteps := 1000000) only [go_sem, bo1, bo2, bo3, bo4, wbat, hle, hlt] <;> exact rfl) (by simp (disch := omega) only [go_sem, w64, wU, bo1, bo2, bo3, bo4, wbat, hle, hlt] <;> exact rfl) ?_
    refine AW.regD1 follows (by kernel_rfl) ?_
    refine ARE.run1 (by simp (maxSteps := 1000000) only [go_sem, bo1, bo2, bo3, bo4, wbat, hle, hlt] <;> exact rfl) ?_
    refine ARE.fin1 [0, 1, 0, 4, 12, 28, 60, 0, 0, 384, 896, 2044, 4095, 8191] _ (by kernel_rfl) (by simp (maxSteps := 1000000) only [go_sem, bo1, bo2, bo3, bo4, wbat, hle, hlt] <;> exact rfl) (by kernel_rfl) (by simp (disch := omega) only [go_sem, w64, wU, bo1, bo2, bo3, bo4, wbat, hle, hlt] <;> exact rfl) ?_
    show AW _ _ _ _ _
    refine AW.regR1 rfl (by simp (maxSteps := 1000000) only [go_sem, bo1, bo2, bo3, bo4, wbat, hle, hlt] <;> exact rfl) (by simp (disch := omega) only [go_sem, w64, wU, bo1, bo2, bo3, bo4, wbat, hle, hlt] <;> exact rfl) ?_
    show ARounds _ _ _ _ _ _
    refine ARounds.mk ?_
    refine AW.regR rfl (by simp (maxSteps := 1000000) only [go_sem, bo1, bo2, bo3, bo4, wbat, hle, hlt] <;> exact rfl) (by simp (disch := omega) only [go_sem, w64, wU, bo1, bo2, bo3, bo4, wbat, hle, hlt] <;> exact rfl) ?_
    refine AW.seq ?_
    refine AW.condT (by simp (maxSteps := 1000000) only [go_sem, bo1, bo2, bo3, bo4, wbat, hle, hlt] <;> exact rfl) ?_
    refine AW.skip ?_
    show AW _ _ _ _ _
    refine AW.seq ?_
    refine AW.block ?_
    refine AW.regR rfl (by simp (maxSteps := 1000000) only [go_sem, bo1, bo2, bo3, bo4, wbat, hle, hlt] <;> exact rfl) (by simp (disch := omega) only [go_sem, w64, wU, bo1, bo2, bo3, bo4, wbat, hle, hlt] <;> exact rfl) ?_
    refine AW.regD1 follows (by kernel_rfl) ?_
    refine ARE.run1 (by simp (maxSteps := 1000000) only [go_sem, bo1, bo2, bo3, bo4, wbat, hle, hlt] <;> exact rfl) ?_
    refine ARE.fin1 [0, 1, 0, 4, 12, 28, 60, 0, 0, 384, 896, 2044, 4095, 8191] _ (by kernel_rfl) (by simp (maxSteps := 1000000) only [go_sem, bo1, bo2, bo3, bo4, wbat, hle, hlt] <;> exact rfl) (by kernel_rfl) (by simp (disch := omega) only [go_sem, w64, wU, bo1, bo2, bo3, bo4, wbat, hle, hlt] <;> exact rfl) ?_
    show AW _ _ _ _ _
    refine AW.regR1 rfl (by simp (maxSteps := 1000000) only [go_sem, bo1, bo2, bo3, bo4, wbat, hle, hlt] <;> exact rfl) (by simp (disch := omega) only [go_sem, w64, wU, bo1, bo2, bo3, bo4, wbat, hle, hlt] <;> exact rfl) ?_
    show ARounds _ _ _ _ _ _
    refine ARounds.mk ?_
    refine AW.regR rfl (by simp (maxSteps := 1000000) only [go_sem, bo1, bo2, bo3, bo4, wbat, hle, hlt] <;> exact rfl) (by simp (disch := omega) only [go_sem, w64, wU, bo1, bo2, bo3, bo4, wbat, hle, hlt] <;> exact rfl) ?_
    refine AW.seq ?_
    refine AW.condT (by simp (maxSteps := 1000000) only [go_sem, bo1, bo2, bo3, bo4, wbat, hle, hlt] <;> exact rfl) ?_
    refine AW.skip ?_
    show AW _ _ _ _ _
    refine AW.seq ?_
    refine AW.block ?_
    refine AW.regR rfl (by simp (maxSteps := 1000000) only [go_sem, bo1, bo2, bo3, bo4, wbat, hle, hlt] <;> exact rfl) (by simp (disch := omega) only [go_sem, w64, wU, bo1, bo2, bo3, bo4, wbat, hle, hlt] <;> exact rfl) ?_
    refine AW.regD1 follows (by kernel_rfl) ?_
    refine ARE.run1 (by simp (maxSteps := 1000000) only [go_sem, bo1, bo2, bo3, bo4, wbat, hle, hlt] <;> exact rfl) ?_
    refine ARE.fin1 [0, 1, 0, 4, 12, 28, 60, 0, 0, 384, 896, 2044, 4095, 8191] _ (by kernel_rfl) (by simp (maxSteps := 1000000) only [go_sem, bo1, bo2, bo3, bo4, wbat, hle, hlt] <;> exact rfl) (by kernel_rfl) (by simp (disch := omega) only [go_sem, w64, wU, bo1, bo2, bo3, bo4, wbat, hle, hlt] <;> exact rfl) ?_
    show AW _ _ _ _ _
    refine AW.regR1 rfl (by simp (maxSteps := 1000000) only [go_sem, bo1, bo2, bo3, bo4, wbat, hle, hlt] <;> exact rfl) (by simp (disch := omega) only [go_sem, w64, wU, bo1, bo2, bo3, bo4, wbat, hle, hlt] <;> exact rfl) ?_
    show ARounds _ _ _ _ _ _
    refine ARounds.mk ?_
    refine AW.regR rfl (by simp (maxSteps := 1000000) only [go_sem, bo1, bo2, bo3, bo4, wbat, hle, hlt] <;> exact rfl) (by simp (disch := omega) only [go_sem, w64, wU, bo1, bo2, bo3, bo4, wbat, hle, hlt] <;> exact rfl) ?_
    refine AW.seq ?_
    refine AW.condT (by simp (maxSteps := 1000000) only [go_sem, bo1, bo2, bo3, bo4, wbat, hle, hlt] <;> exact rfl) ?_
    refine AW.skip ?_
    show AW _ _ _ _ _
    refine AW.seq ?_
    refine AW.block ?_
    refine AW.regR rfl (by simp (maxSteps := 1000000) only [go_sem, bo1, bo2, bo3, bo4, wbat, hle, hlt] <;> exact rfl) (by simp (disch := omega) only [go_sem, w64, wU, bo1, bo2, bo3, bo4, wbat, hle, hlt] <;> exact rfl) ?_
    refine AW.regD1 follows (by kernel_rfl) ?_
    refine ARE.run1 (by simp (maxSteps := 1000000) only [go_sem, bo1, bo2, bo3, bo4, wbat, hle, hlt] <;> exact rfl) ?_
    refine ARE.fin1 [0, 1, 0, 4, 12, 28, 60, 0, 0, 384, 896, 2044, 4095, 8191] _ (by kernel_rfl) (by simp (maxSteps := 1000000) only [go_sem, bo1, bo2, bo3, bo4, wbat, hle, hlt] <;> exact rfl) (by kernel_rfl) (by simp (disch := omega) only [go_sem, w64, wU, bo1, bo2, bo3, bo4, wbat, hle, hlt] <;> exact rfl) ?_
    show AW _ _ _ _ _
    refine AW.regR1 rfl (by simp (maxSteps := 1000000) only [go_sem, bo1, bo2, bo3, bo4, wbat, hle, hlt] <;> exact rfl) (by simp (disch := omega) only [go_sem, w64, wU, bo1, bo2, bo3, bo4, wbat, hle, hlt] <;> exact rfl) ?_
    show ARounds _ _ _ _ _ _
    refine ARounds.mk ?_
    refine AW.regR rfl (by simp (maxSteps := 1000000) only [go_sem, bo1, bo2, bo3, bo4, wbat, hle, hlt] <;> exact rfl) (by simp (disch := omega) only [go_sem, w64, wU, bo1, bo2, bo3, bo4, wbat, hle, hlt] <;> exact rfl) ?_
    refine AW.seq ?_
    refine AW.condT (by simp (maxSteps := 1000000) only [go_sem, bo1, bo2, bo3, bo4, wbat, hle, hlt] <;> exact rfl) ?_
    refine AW.skip ?_
    show AW _ _ _ _ _
    refine AW.seq ?_
    refine AW.block ?_
    refine AW.regR rfl (by simp (maxSteps := 1000000) only [go_sem, bo1, bo2, bo3, bo4, wbat, hle, hlt] <;> exact rfl) (by simp (disch := omega) only [go_sem, w64, wU, bo1, bo2, bo3, bo4, wbat, hle, hlt] <;> exact rfl) ?_
    refine AW.regD1 follows (by kernel_rfl) ?_
    refine ARE.run1 (by simp (maxSteps := 1000000) only [go_sem, bo1, bo2, bo3, bo4, wbat, hle, hlt] <;> exact rfl) ?_
    refine ARE.fin1 [0, 1, 0, 4, 12, 28, 60, 0, 0, 384, 896, 2044, 4095, 8191] _ (by kernel_rfl) (by simp (maxSteps := 1000000) only [go_sem, bo1, bo2, bo3, bo4, wbat, hle, hlt] <;> exact rfl) (by kernel_rfl) (by simp (disch := omega) only [go_sem, w64, wU, bo1, bo2, bo3, bo4, wbat, hle, hlt] <;> exact rfl) ?_
    show AW _ _ _ _ _
    refine AW.regR1 rfl (by simp (maxSteps := 1000000) only [go_sem, bo1, bo2, bo3, bo4, wbat, hle, hlt] <;> exact rfl) (by simp (disch := omega) only [go_sem, w64, wU, bo1, bo2, bo3, bo4, wbat, hle, hlt] <;> exact rfl) ?_
    show ARounds _ _ _ _ _ _
    refine ARounds.mk ?_
    refine AW.regR rfl (by simp (maxSteps := 1000000) only [go_sem, bo1, bo2, bo3, bo4, wbat, hle, hlt] <;> exact rfl) (by simp (disch := omega) only [go_sem, w64, wU, bo1, bo2, bo3, bo4, wbat, hle, hlt] <;> exact rfl) ?_
    refine AW.seq ?_
    refine AW.condT (by simp (maxSteps := 1000000) only [go_sem, bo1, bo2, bo3, bo4, wbat, hle, hlt] <;> exact rfl) ?_
    refine AW.skip ?_
    show AW _ _ _ _ _
    refine AW.seq ?_
    refine AW.block ?_
    refine AW.regR rfl (by simp (maxSteps := 1000000) only [go_sem, bo1, bo2, bo3, bo4, wbat, hle, hlt] <;> exact rfl) (by simp (disch := omega) only [go_sem, w64, wU, bo1, bo2, bo3, bo4, wbat, hle, hlt] <;> exact rfl) ?_
    refine AW.regD1 follows (by kernel_rfl) ?_
    refine ARE.run1 (by simp (maxSteps := 1000000) only [go_sem, bo1, bo2, bo3, bo4, wbat, hle, hlt] <;> exact rfl) ?_
    refine ARE.fin1 [0, 1, 0, 4, 12, 28, 60, 0, 0, 384, 896, 2044, 4095, 8191] _ (by kernel_rfl) (by simp (maxSteps := 1000000) only [go_sem, bo1, bo2, bo3, bo4, wbat, hle, hlt] <;> exact rfl) (by kernel_rfl) (by simp (disch := omega) only [go_sem, w64, wU, bo1, bo2, bo3, bo4, wbat, hle, hlt] <;> exact rfl) ?_
    show AW _ _ _ _ _
    refine AW.regR1 rfl (by simp (maxSteps := 1000000) only [go_sem, bo1, bo2, bo3, bo4, wbat, hle, hlt] <;> exact rfl) (by simp (disch := omega) only [go_sem, w64, wU, bo1, bo2, bo3, bo4, wbat, hle, hlt] <;> exact rfl) ?_
    show ARounds _ _ _ _ _ _
    refine ARounds.mk ?_
    refine AW.regR rfl (by simp (maxSteps := 1000000) only [go_sem, bo1, bo2, bo3, bo4, wbat, hle, hlt] <;> exact rfl) (by simp (disch := omega) only [go_sem, w64, wU, bo1, bo2, bo3, bo4, wbat, hle, hlt] <;> exact rfl) ?_
    refine AW.seq ?_
    refine AW.condT (by simp (maxSteps := 1000000) only [go_sem, bo1, bo2, bo3, bo4, wbat, hle, hlt] <;> exact rfl) ?_
    refine AW.skip ?_
    show AW _ _ _ _ _
    refine AW.seq ?_
    refine AW.block ?_
    refine AW.regR rfl (by simp (maxSteps := 1000000) only [go_sem, bo1, bo2, bo3, bo4, wbat, hle, hlt] <;> exact rfl) (by simp (disch := omega) only [go_sem, w64, wU, bo1, bo2, bo3, bo4, wbat, hle, hlt] <;> exact rfl) ?_
    refine AW.regD1 follows (by kernel_rfl) ?_
    refine ARE.run1 (by simp (maxSteps := 1000000) only [go_sem, bo1, bo2, bo3, bo4, wbat, hle, hlt] <;> exact rfl) ?_
    refine ARE.fin1 [0, 1, 0, 4, 12, 28, 60, 0, 0, 384, 896, 2044, 4095, 8191] _ (by kernel_rfl) (by simp (maxSteps := 1000000) only [go_sem, bo1, bo2, bo3, bo4, wbat, hle, hlt] <;> exact rfl) (by kernel_rfl) (by simp (disch := omega) only [go_sem, w64, wU, bo1, bo2, bo3, bo4, wbat, hle, hlt] <;> exact rfl) ?_
    show AW _ _ _ _ _
    refine AW.regR1 rfl (by simp (maxSteps := 1000000) only [go_sem, bo1, bo2, bo3, bo4, wbat, hle, hlt] <;> exact rfl) (by simp (disch := omega) only [go_sem, w64, wU, bo1, bo2, bo3, bo4, wbat, hle, hlt] <;> exact rfl) ?_
    show ARounds _ _ _ _ _ _
    refine ARounds.mk ?_
    refine AW.regR rfl (by simp (maxSteps := 1000000) only [go_sem, bo1, bo2, bo3, bo4, wbat, hle, hlt] <;> exact rfl) (by simp (disch := omega) only [go_sem, w64, wU, bo1, bo2, bo3, bo4, wbat, hle, hlt] <;> exact rfl) ?_
    refine AW.seq ?_
    refine AW.condT (by simp (maxSteps := 1000000) only [go_sem, bo1, bo2, bo3, bo4, wbat, hle, hlt] <;> exact rfl) ?_
    refine AW.skip ?_
    show AW _ _ _ _ _
    refine AW.seq ?_
    refine AW.block ?_
    refine AW.regR rfl (by simp (maxSteps := 1000000) only [go_sem, bo1, bo2, bo3, bo4, wbat, hle, hlt] <;> exact rfl) (by simp (disch := omega) only [go_sem, w64, wU, bo1, bo2, bo3, bo4, wbat, hle, hlt] <;> exact rfl) ?_
    refine AW.regD1 follows (by kernel_rfl) ?_
    refine ARE.run1 (by simp (maxSteps := 1000000) only [go_sem, bo1, bo2, bo3, bo4, wbat, hle, hlt] <;> exact rfl) ?_
    refine ARE.fin1 [0, 1, 0, 4, 12, 28, 60, 0, 0, 384, 896, 2044, 4095, 8191] _ (by kernel_rfl) (by simp (maxSteps := 1000000) only [go_sem, bo1, bo2, bo3, bo4, wbat, hle, hlt] <;> exact rfl) (by kernel_rfl) (by simp (disch := omega) only [go_sem, w64, wU, bo1, bo2, bo3, bo4, wbat, hle, hlt] <;> exact rfl) ?_
    show AW _ _ _ _ _
    refine AW.regR1 rfl (by simp (maxSteps := 1000000) only [go_sem, bo1, bo2, bo3, bo4, wbat, hle, hlt] <;> exact rfl) (by simp (disch := omega) only [go_sem, w64, wU, bo1, bo2, bo3, bo4, wbat, hle, hlt] <;> exact rfl) ?_
    show ARounds _ _ _ _ _ _
    refine ARounds.mk ?_
    refine AW.regR rfl (by simp (maxSteps := 1000000) only [go_sem, bo1, bo2, bo3, bo4, wbat, hle, hlt] <;> exact rfl) (by simp (disch := omega) only [go_sem, w64, wU, bo1, bo2, bo3, bo4, wbat, hle, hlt] <;> exact rfl) ?_
    refine AW.seq ?_
    refine AW.condT (by simp (maxSteps := 1000000) only [go_sem, bo1, bo2, bo3, bo4, wbat, hle, hlt] <;> exact rfl) ?_
    refine AW.skip ?_
    show AW _ _ _ _ _
    refine AW.seq ?_
    refine AW.block ?_
    refine AW.regR rfl (by simp (maxSteps := 1000000) only [go_sem, bo1, bo2, bo3, bo4, wbat, hle, hlt] <;> exact rfl) (by simp (disch := omega) only [go_sem, w64, wU, bo1, bo2, bo3, bo4, wbat, hle, hlt] <;> exact rfl) ?_
    refine AW.regD1 follows (by kernel_rfl) ?_
    refine ARE.run1 (by simp (maxSteps := 1000000) only [go_sem, bo1, bo2, bo3, bo4, wbat, hle, hlt] <;> exact rfl) ?_
    refine ARE.fin1 [0, 1, 0, 4, 12, 28, 60, 0, 0, 384, 896, 2044, 4095, 8191] _ (by kernel_rfl) (by simp (maxSteps := 1000000) only [go_sem, bo1, bo2, bo3, bo4, wbat, hle, hlt] <;> exact rfl) (by kernel_rfl) (by simp (disch := omega) only [go_sem, w64, wU, bo1, bo2, bo3, bo4, wbat, hle, hlt] <;> exact rfl) ?_
    show AW _ _ _ _ _
    refine AW.regR1 rfl (by simp (maxSteps := 1000000) only [go_sem, bo1, bo2, bo3, bo4, wbat, hle, hlt] <;> exact rfl) (by simp (disch := omega) only [go_sem, w64, wU, bo1, bo2, bo3, bo4, wbat, hle, hlt] <;> exact rfl) ?_
    show ARounds _ _ _ _ _ _
    refine ARounds.mk ?_
    refine AW.regR rfl (by simp (maxSteps := 1000000) only [go_sem, bo1, bo2, bo3, bo4, wbat, hle, hlt] <;> exact rfl) (by simp (disch := omega) only [go_sem, w64, wU, bo1, bo2, bo3, bo4, wbat, hle, hlt] <;> exact rfl) ?_
    refine AW.seq ?_
    refine AW.condT (by simp (maxSteps := 1000000) only [go_sem, bo1, bo2, bo3, bo4, wbat, hle, hlt] <;> exact rfl) ?_
    refine AW.skip ?_
    show AW _ _ _ _ _
    refine AW.seq ?_
    refine AW.block ?_
    refine AW.regR rfl (by simp (maxSteps := 1000000) only [go_sem, bo1, bo2, bo3, bo4, wbat, hle, hlt] <;> exact rfl) (by simp (disch := omega) only [go_sem, w64, wU, bo1, bo2, bo3, bo4, wbat, hle, hlt] <;> exact rfl) ?_
    refine AW.regD1 follows (by kernel_rfl) ?_
    refine ARE.run1 (by simp (maxSteps := 1000000) only [go_sem, bo1, bo2, bo3, bo4, wbat, hle, hlt] <;> exact rfl) ?_
    refine ARE.fin1 [0, 1, 0, 4, 12, 28, 60, 0, 0, 384, 896, 2044, 4095, 8191] _ (by kernel_rfl) (by simp (maxSteps := 1000000) only [go_sem, bo1, bo2, bo3, bo4, wbat, hle, hlt] <;> exact rfl) (by kernel_rfl) (by simp (disch := omega) only [go_sem, w64, wU, bo1, bo2, bo3, bo4, wbat, hle, hlt] <;> exact rfl) ?_
    show AW _ _ _ _ _
    refine AW.regR1 rfl (by simp (maxSteps := 1000000) only [go_sem, bo1, bo2, bo3, bo4, wbat, hle, hlt] <;> exact rfl) (by simp (disch := omega) only [go_sem, w64, wU, bo1, bo2, bo3, bo4, wbat, hle, hlt] <;> exact rfl) ?_
    show ARounds _ _ _ _ _ _
    refine ARounds.mk ?_
    refine AW.regR rfl (by simp (maxSteps := 1000000) only [go_sem, bo1, bo2, bo3, bo4, wbat, hle, hlt] <;> exact rfl) (by simp (disch := omega) only [go_sem, w64, wU, bo1, bo2, bo3, bo4, wbat, hle, hlt] <;> exact rfl) ?_
    refine AW.seq ?_
    refine AW.condT (by simp (maxSteps := 1000000) only [go_sem, bo1, bo2, bo3, bo4, wbat, hle, hlt] <;> exact rfl) ?_
    refine AW.skip ?_
    show AW _ _ _ _ _
    refine AW.seq ?_
    refine AW.block ?_
    refine AW.regR rfl (by simp (maxSteps := 1000000) only [go_sem, bo1, bo2, bo3, bo4, wbat, hle, hlt] <;> exact rfl) (by simp (disch := omega) only [go_sem, w64, wU, bo1, bo2, bo3, bo4, wbat, hle, hlt] <;> exact rfl) ?_
    refine AW.regD1 follows (by kernel_rfl) ?_
    refine ARE.run1 (by simp (maxSteps := 1000000) only [go_sem, bo1, bo2, bo3, bo4, wbat, hle, hlt] <;> exact rfl) ?_
    refine ARE.fin1 [0, 1, 0, 4, 12, 28, 60, 0, 0, 384, 896, 2044, 4095, 8191] _ (by kernel_rfl) (by simp (maxSteps := 1000000) only [go_sem, bo1, bo2, bo3, bo4, wbat, hle, hlt] <;> exact rfl) (by kernel_rfl) (by simp (disch := omega) only [go_sem, w64, wU, bo1, bo2, bo3, bo4, wbat, hle, hlt] <;> exact rfl) ?_
    show AW _ _ _ _ _
    refine AW.regR1 rfl (by simp (maxSteps := 1000000) only [go_sem, bo1, bo2, bo3, bo4, wbat, hle, hlt] <;> exact rfl) (by simp (disch := omega) only [go_sem, w64, wU, bo1, bo2, bo3, bo4, wbat, hle, hlt] <;> exact rfl) ?_
    show ARounds _ _ _ _ _ _
    refine ARounds.mk ?_
    refine AW.regR rfl (by simp (maxSteps := 1000000) only [go_sem, bo1, bo2, bo3, bo4, wbat, hle, hlt] <;> exact rfl) (by simp (disch := omega) only [go_sem, w64, wU, bo1, bo2, bo3, bo4, wbat, hle, hlt] <;> exact rfl) ?_
    refine AW.seq ?_
    refine AW.condT (by simp (maxSteps := 1000000) only [go_sem, bo1, bo2, bo3, bo4, wbat, hle, hlt] <;> exact rfl) ?_
    refine AW.skip ?_
    show AW _ _ _ _ _
    refine AW.seq ?_
    refine AW.block ?_
    refine AW.regR rfl (by simp (maxSteps := 1000000) only [go_sem, bo1, bo2, bo3, bo4, wbat, hle, hlt] <;> exact rfl) (by simp (disch := omega) only [go_sem, w64, wU, bo1, bo2, bo3, bo4, wbat, hle, hlt] <;> exact rfl) ?_
    refine AW.regD1 follows (by kernel_rfl) ?_
    refine ARE.run1 (by simp (maxSteps := 1000000) only [go_sem, bo1, bo2, bo3, bo4, wbat, hle, hlt] <;> exact rfl) ?_
    refine ARE.fin1 [0, 1, 0, 4, 12, 28, 60, 0, 0, 384, 896, 2044, 4095, 8191] _ (by kernel_rfl) (by simp (maxSteps := 1000000) only [go_sem, bo1, bo2, bo3, bo4, wbat, hle, hlt] <;> exact rfl) (by kernel_rfl) (by simp (disch := omega) only [go_sem, w64, wU, bo1, bo2, bo3, bo4, wbat, hle, hlt] <;> exact rfl) ?_
    show AW _ _ _ _ _
    refine AW.regR1 rfl (by simp (maxSteps := 1000000) only [go_sem, bo1, bo2, bo3, bo4, wbat, hle, hlt] <;> exact rfl) (by simp (disch := omega) only [go_sem, w64, wU, bo1, bo2, bo3, bo4, wbat, hle, hlt] <;> exact rfl) ?_
    show ARounds _ _ _ _ _ _
    refine ARounds.mk ?_
    refine AW.regR rfl (by simp (maxSteps := 1000000) only [go_sem, bo1, bo2, bo3, bo4, wbat, hle, hlt] <;> exact rfl) (by simp (disch := omega) only [go_sem, w64, wU, bo1, bo2, bo3, bo4, wbat, hle, hlt] <;> exact rfl) ?_
    refine AW.seq ?_
    refine AW.condT (by simp (maxSteps := 1000000) only [go_sem, bo1, bo2, bo3, bo4, wbat, hle, hlt] <;> exact rfl) ?_
    refine AW.skip ?_
    show AW _ _ _ _ _
    refine AW.seq ?_
    refine AW.block ?_
    refine AW.regR rfl (by simp (maxSteps := 1000000) only [go_sem, bo1, bo2, bo3, bo4, wbat, hle, hlt] <;> exact rfl) (by simp (disch := omega) only [go_sem, w64, wU, bo1, bo2, bo3, bo4, wbat, hle, hlt] <;> exact rfl) ?_
    refine AW.regD1 follows (by kernel_rfl) ?_
    refine ARE.run1 (by simp (maxSteps := 1000000) only [go_sem, bo1, bo2, bo3, bo4, wbat, hle, hlt] <;> exact rfl) ?_
    refine ARE.fin1 [0, 1, 0, 4, 12, 28, 60, 0, 0, 384, 896, 2044, 4095, 8191] _ (by kernel_rfl) (by simp (maxSteps := 1000000) only [go_sem, bo1, bo2, bo3, bo4, wbat, hle, hlt] <;> exact rfl) (by kernel_rfl) (by simp (disch := omega) only [go_sem, w64, wU, bo1, bo2, bo3, bo4, wbat, hle, hlt] <;> exact rfl) ?_
    show AW _ _ _ _ _
    refine AW.regR1 rfl (by simp (maxSteps := 1000000) only [go_sem, bo1, bo2, bo3, bo4, wbat, hle, hlt] <;> exact rfl) (by simp (disch := omega) only [go_sem, w64, wU, bo1, bo2, bo3, bo4, wbat, hle, hlt] <;> exact rfl) ?_
    show ARounds _ _ _ _ _ _
    refine ARounds.mk ?_
    refine AW.regR rfl (by simp (maxSteps := 1000000) only [go_sem, bo1, bo2, bo3, bo4, wbat, hle, hlt] <;> exact rfl) (by simp (disch := omega) only [go_sem, w64, wU, bo1, bo2, bo3, bo4, wbat, hle, hlt] <;> exact rfl) ?_
    refine AW.seq ?_
    refine AW.condT (by simp (maxSteps := 1000000) only [go_sem, bo1, bo2, bo3, bo4, wbat, hle, hlt] <;> exact rfl) ?_
    refine AW.skip ?_
    show AW _ _ _ _ _
    refine AW.seq ?_
    refine AW.block ?_
    refine AW.regR rfl (by simp (maxSteps := 1000000) only [go_sem, bo1, bo2, bo3, bo4, wbat, hle, hlt] <;> exact rfl) (by simp (disch := omega) only [go_sem, w64, wU, bo1, bo2, bo3, bo4, wbat, hle, hlt] <;> exact rfl) ?_
    refine AW.regD1 follows (by kernel_rfl) ?_
    refine ARE.run1 (by simp (maxSteps := 1000000) only [go_sem, bo1, bo2, bo3, bo4, wbat, hle, hlt] <;> exact rfl) ?_
    refine ARE.fin1 [0, 1, 0, 4, 12, 28, 60, 0, 0, 384, 896, 2044, 4095, 8191] _ (by kernel_rfl) (by simp (maxSteps := 1000000) only [go_sem, bo1, bo2, bo3, bo4, wbat, hle, hlt] <;> exact rfl) (by kernel_rfl) (by simp (disch := omega) only [go_sem, w64, wU, bo1, bo2, bo3, bo4, wbat, hle, hlt] <;> exact rfl) ?_
    show AW _ _ _ _ _
    refine AW.regR1 rfl (by simp (maxSteps := 1000000) only [go_sem, bo1, bo2, bo3, bo4, wbat, hle, hlt] <;> exact rfl) (by simp (disch := omega) only [go_sem, w64, wU, bo1, bo2, bo3, bo4, wbat, hle, hlt] <;> exact rfl) ?_
    show ARounds _ _ _ _ _ _
    refine ARounds.mk ?_
    refine AW.regR rfl (by simp (maxSteps := 1000000) only [go_sem, bo1, bo2, bo3, bo4, wbat, hle, hlt] <;> exact rfl) (by simp (disch := omega) only [go_sem, w64, wU, bo1, bo2, bo3, bo4, wbat, hle, hlt] <;> exact rfl) ?_
    refine AW.seq ?_
    refine AW.condT (by simp (maxSteps := 1000000) only [go_sem, bo1, bo2, bo3, bo4, wbat, hle, hlt] <;> exact rfl) ?_
    refine AW.skip ?_
    show AW _ _ _ _ _
    refine AW.seq ?_
    refine AW.block ?_
    refine AW.regR rfl (by simp (maxSteps := 1000000) only [go_sem, bo1, bo2, bo3, bo4, wbat, hle, hlt] <;> exact rfl) (by simp (disch := omega) only [go_sem, w64, wU, bo1, bo2, bo3, bo4, wbat, hle, hlt] <;> exact rfl) ?_
    refine AW.regD1 follows (by kernel_rfl) ?_
    refine ARE.run1 (by simp (maxSteps := 1000000) only [go_sem, bo1, bo2, bo3, bo4, wbat, hle, hlt] <;> exact rfl) ?_
    refine ARE.fin1 [0, 1, 0, 4, 12, 28, 60, 0, 0, 384, 896, 2044, 4095, 8191] _ (by kernel_rfl) (by simp (maxSteps := 1000000) only [go_sem, bo1, bo2, bo3, bo4, wbat, hle, hlt] <;> exact rfl) (by kernel_rfl) (by simp (disch := omega) only [go_sem, w64, wU, bo1, bo2, bo3, bo4, wbat, hle, hlt] <;> exact rfl) ?_
    show AW _ _ _ _ _
    refine AW.regR1 rfl (by simp (maxSteps := 1000000) only [go_sem, bo1, bo2, bo3, bo4, wbat, hle, hlt] <;> exact rfl) (by simp (disch := omega) only [go_sem, w64, wU, bo1, bo2, bo3, bo4, wbat, hle, hlt] <;> exact rfl) ?_
    show ARounds _ _ _ _ _ _
    refine ARounds.mk ?_
    refine AW.regR rfl (by simp (maxSteps := 1000000) only [go_sem, bo1, bo2, bo3, bo4, wbat, hle, hlt] <;> exact rfl) (by simp (disch := omega) only [go_sem, w64, wU, bo1, bo2, bo3, bo4, wbat, hle, hlt] <;> exact rfl) ?_
    refine AW.seq ?_
    refine AW.condT (by simp (maxSteps := 1000000) only [go_sem, bo1, bo2, bo3, bo4, wbat, hle, hlt] <;> exact rfl) ?_
    refine AW.skip ?_
    show AW _ _ _ _ _
    refine AW.seq ?_
    refine AW.block ?_
    refine AW.regR rfl (by simp (maxSteps := 1000000) only [go_sem, bo1, bo2, bo3, bo4, wbat, hle, hlt] <;> exact rfl) (by simp (disch := omega) only [go_sem, w64, wU, bo1, bo2, bo3, bo4, wbat, hle, hlt] <;> exact rfl) ?_
    refine AW.regD1 follows (by kernel_rfl) ?_
    refine ARE.run1 (by simp (maxSteps := 1000000) only [go_sem, bo1, bo2, bo3, bo4, wbat, hle, hlt] <;> exact rfl) ?_
    refine ARE.fin1 [0, 1, 0, 4, 12, 28, 60, 0, 0, 384, 896, 2044, 4095, 8191] _ (by kernel_rfl) (by simp (maxSteps := 1000000) only [go_sem, bo1, bo2, bo3, bo4, wbat, hle, hlt] <;> exact rfl) (by kernel_rfl) (by simp (disch := omega) only [go_sem, w64, wU, bo1, bo2, bo3, bo4, wbat, hle, hlt] <;> exact rfl) ?_
    show AW _ _ _ _ _
    refine AW.regR1 rfl (by simp (maxSteps := 1000000) only [go_sem, bo1, bo2, bo3, bo4, wbat, hle, hlt] <;> exact rfl) (by simp (disch := omega) only [go_sem, w64, wU, bo1, bo2, bo3, bo4, wbat, hle, hlt] <;> exact rfl) ?_
    show ARounds _ _ _ _ _ _
    refine ARounds.mk ?_
    refine AW.regR rfl (by simp (maxSteps := 1000000) only [go_sem, bo1, bo2, bo3, bo4, wbat, hle, hlt] <;> exact rfl) (by simp (disch := omega) only [go_sem, w64, wU, bo1, bo2, bo3, bo4, wbat, hle, hlt] <;> exact rfl) ?_
    refine AW.seq ?_
    refine AW.condT (by simp (maxSteps := 1000000) only [go_sem, bo1, bo2, bo3, bo4, wbat, hle, hlt] <;> exact rfl) ?_
    refine AW.skip ?_
    show AW _ _ _ _ _
    refine AW.seq ?_
    refine AW.block ?_
    refine AW.regR rfl (by simp (maxSteps := 1000000) only [go_sem, bo1, bo2, bo3, bo4, wbat, hle, hlt] <;> exact rfl) (by simp (disch := omega) only [go_sem, w64, wU, bo1, bo2, bo3, bo4, wbat, hle, hlt] <;> exact rfl) ?_
    refine AW.regD1 follows (by kernel_rfl) ?_
    refine ARE.run1 (by simp (maxSteps := 1000000) only [go_sem, bo1, bo2, bo3, bo4, wbat, hle, hlt] <;> exact rfl) ?_
    refine ARE.fin1 [0, 1, 0, 4, 12, 28, 60, 0, 0, 384, 896, 2044, 4095, 8191] _ (by kernel_rfl) (by simp (maxSteps := 1000000) only [go_sem, bo1, bo2, bo3, bo4, wbat, hle, hlt] <;> exact rfl) (by kernel_rfl) (by simp (disch := omega) only [go_sem, w64, wU, bo1, bo2, bo3, bo4, wbat, hle, hlt] <;> exact rfl) ?_
    show AW _ _ _ _ _
    refine AW.regR1 rfl (by simp (maxSteps := 1000000) only [go_sem, bo1, bo2, bo3, bo4, wbat, hle, hlt] <;> exact rfl) (by simp (disch := omega) only [go_sem, w64, wU, bo1, bo2, bo3, bo4, wbat, hle, hlt] <;> exact rfl) ?_
    show ARounds _ _ _ _ _ _
    refine ARounds.mk ?_
    refine AW.regR rfl (by simp (maxSteps := 1000000) only [go_sem, bo1, bo2, bo3, bo4, wbat, hle, hlt] <;> exact rfl) (by simp (disch := omega) only [go_sem, w64, wU, bo1, bo2, bo3, bo4, wbat, hle, hlt] <;> exact rfl) ?_
    refine AW.seq ?_
    refine AW.condT (by simp (maxSteps := 1000000) only [go_sem, bo1, bo2, bo3, bo4, wbat, hle, hlt] <;> exact rfl) ?_
    refine AW.skip ?_
    show AW _ _ _ _ _
    refine AW.seq ?_
    refine AW.block ?_
    refine AW.regR rfl (by simp (maxSteps := 1000000) only [go_sem, bo1, bo2, bo3, bo4, wbat, hle, hlt] <;> exact rfl) (by simp (disch := omega) only [go_sem, w64, wU, bo1, bo2, bo3, bo4, wbat, hle, hlt] <;> exact rfl) ?_
    refine AW.regD1 follows (by kernel_rfl) ?_
    refine ARE.run1 (by simp (maxSteps := 1000000) only [go_sem, bo1, bo2, bo3, bo4, wbat, hle, hlt] <;> exact rfl) ?_
    refine ARE.fin1 [0, 1, 0, 4, 12, 28, 60, 0, 0, 384, 896, 2044, 4095, 8191] _ (by kernel_rfl) (by simp (maxSteps := 1000000) only [go_sem, bo1, bo2, bo3, bo4, wbat, hle, hlt] <;> exact rfl) (by kernel_rfl) (by simp (disch := omega) only [go_sem, w64, wU, bo1, bo2, bo3, bo4, wbat, hle, hlt] <;> exact rfl) ?_
    show AW _ _ _ _ _
    refine AW.regR1 rfl (by simp (maxSteps := 1000000) only [go_sem, bo1, bo2, bo3, bo4, wbat, hle, hlt] <;> exact rfl) (by simp (disch := omega) only [go_sem, w64, wU, bo1, bo2, bo3, bo4, wbat, hle, hlt] <;> exact rfl) ?_
    show ARounds _ _ _ _ _ _
    refine ARounds.mk ?_
    refine AW.regR rfl (by simp (maxSteps := 1000000) only [go_sem, bo1, bo2, bo3, bo4, wbat, hle, hlt] <;> exact rfl) (by simp (disch := omega) only [go_sem, w64, wU, bo1, bo2, bo3, bo4, wbat, hle, hlt] <;> exact rfl) ?_
    refine AW.seq ?_
    refine AW.condT (by simp (maxSteps := 1000000) only [go_sem, bo1, bo2, bo3, bo4, wbat, hle, hlt] <;> exact rfl) ?_
    refine AW.skip ?_
    show AW _ _ _ _ _
    refine AW.seq ?_
    refine AW.block ?_
    refine AW.regR rfl (by simp (maxSteps := 1000000) only [go_sem, bo1, bo2, bo3, bo4, wbat, hle, hlt] <;> exact rfl) (by simp (disch := omega) only [go_sem, w64, wU, bo1, bo2, bo3, bo4, wbat, hle, hlt] <;> exact rfl) ?_
    refine AW.regD1 follows (by kernel_rfl) ?_
    refine ARE.run1 (by simp (maxSteps := 1000000) only [go_sem, bo1, bo2, bo3, bo4, wbat, hle, hlt] <;> exact rfl) ?_
    refine ARE.fin1 [0, 1, 0, 4, 12, 28, 60, 0, 0, 384, 896, 2044, 4095, 8191] _ (by kernel_rfl) (by simp (maxSteps := 1000000) only [go_sem, bo1, bo2, bo3, bo4, wbat, hle, hlt] <;> exact rfl) (by kernel_rfl) (by simp (disch := omega) only [go_sem, w64, wU, bo1, bo2, bo3, bo4, wbat, hle, hlt] <;> exact rfl) ?_
    show AW _ _ _ _ _
    refine AW.regR1 rfl (by simp (maxSteps := 1000000) only [go_sem, bo1, bo2, bo3, bo4, wbat, hle, hlt] <;> exact rfl) (by simp (disch := omega) only [go_sem, w64, wU, bo1, bo2, bo3, bo4, wbat, hle, hlt] <;> exact rfl) ?_
    show ARounds _ _ _ _ _ _
    refine ARounds.mk ?_
    refine AW.regR rfl (by simp (maxSteps := 1000000) only [go_sem, bo1, bo2, bo3, bo4, wbat, hle, hlt] <;> exact rfl) (by simp (disch := omega) only [go_sem, w64, wU, bo1, bo2, bo3, bo4, wbat, hle, hlt] <;> exact rfl) ?_
    refine AW.seq ?_
    refine AW.condF (by simp (maxSteps := 1000000) only [go_sem, bo1, bo2, bo3, bo4, wbat, hle, hlt] <;> exact rfl) ?_
    refine AW.exit ?_
    show AW _ _ _ _ _
    refine AW.regR rfl (by simp (maxSteps := 1000000) only [go_sem, bo1, bo2, bo3, bo4, wbat, hle, hlt] <;> exact rfl) (by simp (disch := omega) only [go_sem, w64, wU, bo1, bo2, bo3, bo4, wbat, hle, hlt] <;> exact rfl) ?_
    refine AW.seq ?_
    refine AW.regS rfl ?_
    refine ARN.run1 (by simp (maxSteps := 1000000) only [go_sem, bo1, bo2, bo3, bo4, wbat, hle, hlt] <;> exact rfl) ?_
    refine ARN.pcall (fun hp => c27 _ _ _ _ _ _ _ _) rfl (by simp (maxSteps := 1000000) only [go_sem, bo1, bo2, bo3, bo4, wbat, hle, hlt] <;> exact rfl) (by simp only [go_sem]) (by simp (maxSteps := 1000000) only [go_sem, bo1, bo2, bo3, bo4, wbat, hle, hlt] <;> exact rfl) ?_
    refine ARN.run1 (by simp (maxSteps := 1000000) only [go_sem, bo1, bo2, bo3, bo4, wbat, hle, hlt] <;> exact rfl) ?_
    refine ARN.fin (by simp (disch := omega) only [go_sem, w64, wU, bo1, bo2, bo3, bo4, wbat, hle, hlt] <;> exact rfl) ?_
    refine AW.regR rfl (by simp (maxSteps := 1000000) only [go_sem, bo1, bo2, bo3, bo4, wbat, hle, hlt] <;> exact rfl) (by simp (disch := omega) only [go_sem, w64, wU, bo1, bo2, bo3, bo4, wbat, hle, hlt] <;> exact rfl) ?_
    refine AW.cond (by simp (maxSteps := 1000000) only [go_sem, bo1, bo2, bo3, bo4, wbat, hle, hlt] <;> exact rfl) (fun hc2 => ?_) (fun hc2 => ?_)
    · try simp only [decide_eq_true_eq, decide_eq_false_iff_not, Bool.or_eq_true, Bool.or_eq_false_iff, Bool.and_eq_true, Bool.and_eq_false_imp, Bool.not_eq_true', Bool.not_eq_false'] at hc2
      refine AW.regR rfl (by simp (maxSteps := 1000000) only [go_sem, bo1, bo2, bo3, bo4, wbat, hle, hlt] <;> exact rfl) (by simp (disch := omega) only [go_sem, w64, wU, bo1, bo2, bo3, bo4, wbat, hle, hlt] <;> exact rfl) ?_
      refine retK.fin rfl (by simp (maxSteps := 1000000) only [go_sem, bo1, bo2, bo3, bo4, wbat, hle, hlt] <;> exact rfl) (by simp (maxSteps := 1000000) only [go_sem, bo1, bo2, bo3, bo4, wbat, hle, hlt] <;> exact rfl) (.of ?_)
      have he : errS s = chkS s := by (unfold errS; rw [if_neg (by omega)])
      have hc : ¬ chkS s = 0 := hc2
      simp only [rdS, restS, he, if_neg hc]; rfl
    · try simp only [decide_eq_true_eq, decide_eq_false_iff_not, Bool.or_eq_true, Bool.or_eq_false_iff, Bool.and_eq_true, Bool.and_eq_false_imp, Bool.not_eq_true', Bool.not_eq_false'] at hc2
      refine AW.skip ?_
      show AW _ _ _ _ _
      refine AW.regDS follows (by kernel_rfl) ?_
      refine ARE.run1 (by simp (maxSteps := 1000000) only [go_sem, bo1, bo2, bo3, bo4, wbat, hle, hlt] <;> exact rfl) ?_
      refine ARE.fin [0, 0, 2, 1, 15, 31] _ (by kernel_rfl) (by simp (maxSteps := 1000000) only [go_sem, bo1, bo2, bo3, bo4, wbat, hle, hlt] <;> exact rfl) (by kernel_rfl) (by simp (disch := omega) only [go_sem, w64, wU, bo1, bo2, bo3, bo4, wbat, hle, hlt] <;> exact rfl) ?_
      refine retK.fin rfl (by simp (maxSteps := 1000000) only [go_sem, bo1, bo2, bo3, bo4, wbat, hle, hlt] <;> exact rfl) (by simp (maxSteps := 1000000) only [go_sem, bo1, bo2, bo3, bo4, wbat, hle, hlt] <;> exact rfl) (.of ?_)
      have he : errS s = chkS s := by (unfold errS; rw [if_neg (by omega)])
      have hc : chkS s = 0 := by first | exact hc2 | exact Classical.not_not.1 hc2
      simp only [rdS, restS, he, hc, if_true]; rfl
def wake : List Int := flat 1 2 1000 4 6 1 0 258
theorem wake_is : putS 1 2 1000 4 6 1 0 258 = strOf [0, 0, 0, 1, 0, 0, 0, 2, 0, 0, 3, 232, 0, 0, 0, 4, 0, 0, 0, 6, 0, 0, 0, 1, 0, 0, 0, 0, 0, 0, 1, 2] := by decide +kernel
theorem x_is : ByteArray.mk #[120] = strOf [120] := by decide +kernel
theorem c29  : PC Try.prog 29 [] (.bool true) := by
  refine PC.start 68 Try.call29 Try.func29 rfl Try.ntmps29 Try.results29 (by simp only [go_sem]; exact rfl) fun z hz => ?_
  refine AW.regR rfl (by simp (maxSteps := 1000000) only [go_sem, wake_is, x_is] <;> exact rfl) (by simp (disch := omega) only [go_sem, w64, wU, wake_is, x_is] <;> exact rfl) ?_
  refine AW.regR rfl (by simp (maxSteps := 1000000) only [go_sem, wake_is, x_is] <;> exact rfl) (by simp (disch := omega) only [go_sem, w64, wU, wake_is, x_is] <;> exact rfl) ?_
  refine AW.regS rfl ?_
  refine ARN.run1 (by simp (maxSteps := 1000000) only [go_sem, wake_is, x_is] <;> exact rfl) ?_
  refine ARN.pcall (fun hp => c25 _ _ _ _ _ _ _ _) rfl (by simp (maxSteps := 1000000) only [go_sem, wake_is, x_is] <;> exact rfl) (by simp only [go_sem]) (by simp (maxSteps := 1000000) only [go_sem, wake_is, x_is] <;> exact rfl) ?_
  refine ARN.run1 (by simp (maxSteps := 1000000) only [go_sem, wake_is, x_is] <;> exact rfl) ?_
  refine ARN.fin (by simp (disch := omega) only [go_sem, w64, wU, wake_is, x_is] <;> exact rfl) ?_
  refine AW.regS rfl ?_
  refine ARN.run1 (by simp (maxSteps := 1000000) only [go_sem, wake_is, x_is] <;> exact rfl) ?_
  refine ARN.pcall (fun hp => c30 _) rfl (by simp (maxSteps := 1000000) only [go_sem, wake_is, x_is] <;> exact rfl) (by simp only [go_sem]) (by simp (maxSteps := 1000000) only [go_sem, wake_is, x_is] <;> exact rfl) ?_
  refine ARN.run1 (by simp (maxSteps := 1000000) only [go_sem, wake_is, x_is] <;> exact rfl) ?_
  refine ARN.fin (by simp (disch := omega) only [go_sem, w64, wU, wake_is, x_is] <;> exact rfl) ?_
  refine AW.regS rfl ?_
  refine ARN.run1 (by simp (maxSteps := 1000000) only [go_sem, wake_is, x_is] <;> exact rfl) ?_
  refine ARN.pcall (fun hp => c30 _) rfl (by simp (maxSteps := 1000000) only [go_sem, wake_is, x_is] <;> exact rfl) (by simp only [go_sem]) (by simp (maxSteps := 1000000) only [go_sem, wake_is, x_is] <;> exact rfl) ?_
  refine ARN.run1 (by simp (maxSteps := 1000000) only [go_sem, wake_is, x_is] <;> exact rfl) ?_
  refine ARN.fin (by simp (disch := omega) only [go_sem, w64, wU, wake_is, x_is] <;> exact rfl) ?_
  refine AW.regS rfl ?_
  refine ARN.run1 (by simp (maxSteps := 1000000) only [go_sem, wake_is, x_is] <;> exact rfl) ?_
  refine ARN.pcall (fun hp => c27 _ _ _ _ _ _ _ _) rfl (by simp (maxSteps := 1000000) only [go_sem, wake_is, x_is] <;> exact rfl) (by simp only [go_sem]) (by simp (maxSteps := 1000000) only [go_sem, wake_is, x_is] <;> exact rfl) ?_
  refine ARN.run1 (by simp (maxSteps := 1000000) only [go_sem, wake_is, x_is] <;> exact rfl) ?_
  refine ARN.fin (by simp (disch := omega) only [go_sem, w64, wU, wake_is, x_is] <;> exact rfl) ?_
  refine retK.fin rfl (by simp (maxSteps := 1000000) only [go_sem, wake_is, x_is] <;> exact rfl) (by simp (maxSteps := 1000000) only [go_sem, wake_is, x_is] <;> exact rfl) (.of ?_)
  exact congrArg PV.bool (by decide +kernel)
theorem c3 (a b c d e f g h : Int) : PC Try.prog 3 [.agg [.int .i64 a, .int .i64 b, .int .i64 c, .int .i64 d, .int .i64 e, .int .i64 f, .int .i64 g, .int .i64 h]] (.bool true) := by
  refine PC.start 35 Try.call3 Try.func3 rfl Try.ntmps3 Try.results3 (by simp only [go_sem]; exact rfl) fun z hz => ?_
  refine AW.regR rfl (by simp (maxSteps := 1000000) only [go_sem] <;> exact rfl) (by simp (disch := omega) only [go_sem, w64, wU] <;> exact rfl) ?_
  refine AW.regS rfl ?_
  refine ARN.run1 (by simp (maxSteps := 1000000) only [go_sem] <;> exact rfl) ?_
  refine ARN.pcall (fun hp => c25 a b c d e f g h) rfl (by simp (maxSteps := 1000000) only [go_sem] <;> exact rfl) (by simp only [go_sem]) (by simp (maxSteps := 1000000) only [go_sem] <;> exact rfl) ?_
  refine ARN.run1 (by simp (maxSteps := 1000000) only [go_sem] <;> exact rfl) ?_
  refine ARN.fin (by simp (disch := omega) only [go_sem, w64, wU] <;> exact rfl) ?_
  refine AW.regS rfl ?_
  refine ARN.run1 (by simp (maxSteps := 1000000) only [go_sem] <;> exact rfl) ?_
  refine ARN.pcall (fun hp => c26 a b c d e f g h) rfl (by simp (maxSteps := 1000000) only [go_sem] <;> exact rfl) (by simp only [go_sem]) (by simp (maxSteps := 1000000) only [go_sem] <;> exact rfl) ?_
  refine ARN.run1 (by simp (maxSteps := 1000000) only [go_sem] <;> exact rfl) ?_
  refine ARN.fin (by simp (disch := omega) only [go_sem, w64, wU] <;> exact rfl) ?_
  refine AW.regDS follows (by kernel_rfl) ?_
  refine ARE.run1 (by simp (maxSteps := 1000000) only [go_sem] <;> exact rfl) ?_
  refine ARE.pcall (fun hp => c27 a b c d e f g h) rfl (by simp (maxSteps := 1000000) only [go_sem] <;> exact rfl) (by simp only [go_sem]) (by simp (maxSteps := 1000000) only [go_sem] <;> exact rfl) ?_
  refine ARE.run1 (by simp (maxSteps := 1000000) only [go_sem] <;> exact rfl) ?_
  refine ARE.pcall (fun hp => c28 a b c d e f g h) rfl (by simp (maxSteps := 1000000) only [go_sem] <;> exact rfl) (by simp only [go_sem]) (by simp (maxSteps := 1000000) only [go_sem] <;> exact rfl) ?_
  refine ARE.run1 (by simp (maxSteps := 1000000) only [go_sem] <;> exact rfl) ?_
  refine ARE.pcall (fun hp => c29) rfl (by simp (maxSteps := 1000000) only [go_sem] <;> exact rfl) (by simp only [go_sem]) (by simp (maxSteps := 1000000) only [go_sem] <;> exact rfl) ?_
  refine ARE.run1 (by simp (maxSteps := 1000000) only [go_sem] <;> exact rfl) ?_
  refine ARE.fin [0, 1, 0, 7, 15, 31, 63, 63, 255, 511, 1023, 2047, 2047, 8191, 16383, 32767, 65535, 131071, 262143] _ (by kernel_rfl) (by simp (maxSteps := 1000000) only [go_sem] <;> exact rfl) (by kernel_rfl) (by simp (disch := omega) only [go_sem, w64, wU] <;> exact rfl) ?_
  refine retK.fin rfl (by simp (maxSteps := 1000000) only [go_sem] <;> exact rfl) (by simp (maxSteps := 1000000) only [go_sem] <;> exact rfl) (.of ?_)
  simp
theorem c4 (s : ByteArray) : PC Try.prog 4 [.str s] (.bool true) := by
  refine PC.start 63 Try.call4 Try.func4 rfl Try.ntmps4 Try.results4 (by simp only [go_sem]; exact rfl) fun z hz => ?_
  refine AW.regR rfl (by simp (maxSteps := 1000000) only [go_sem] <;> exact rfl) (by simp (disch := omega) only [go_sem, w64, wU] <;> exact rfl) ?_
  refine AW.seq ?_
  refine AW.regR rfl (by simp (maxSteps := 1000000) only [go_sem] <;> exact rfl) (by simp (disch := omega) only [go_sem, w64, wU] <;> exact rfl) ?_
  refine AW.cond (by simp (maxSteps := 1000000) only [go_sem] <;> exact rfl) (fun hc1 => ?_) (fun hc1 => ?_)
  · try simp only [decide_eq_true_eq, decide_eq_false_iff_not, Bool.or_eq_true, Bool.or_eq_false_iff, Bool.and_eq_true, Bool.and_eq_false_imp, Bool.not_eq_true', Bool.not_eq_false'] at hc1
    refine AW.regS rfl ?_
    refine ARN.pcall (fun hp => c29) rfl (by simp (maxSteps := 1000000) only [go_sem] <;> exact rfl) (by simp only [go_sem]) (by simp (maxSteps := 1000000) only [go_sem] <;> exact rfl) ?_
    refine ARN.run1 (by simp (maxSteps := 1000000) only [go_sem] <;> exact rfl) ?_
    refine ARN.fin (by simp (disch := omega) only [go_sem, w64, wU] <;> exact rfl) ?_
    refine retK.fin rfl (by simp (maxSteps := 1000000) only [go_sem] <;> exact rfl) (by simp (maxSteps := 1000000) only [go_sem] <;> exact rfl) (.of ?_)
    rfl
  · try simp only [decide_eq_true_eq, decide_eq_false_iff_not, Bool.or_eq_true, Bool.or_eq_false_iff, Bool.and_eq_true, Bool.and_eq_false_imp, Bool.not_eq_true', Bool.not_eq_false'] at hc1
    refine AW.skip ?_
    show AW _ _ _ _ _
    refine AW.regS rfl ?_
    refine ARN.run1 (by simp (maxSteps := 1000000) only [go_sem] <;> exact rfl) ?_
    refine ARN.pcall (fun hp => c30 s) rfl (by simp (maxSteps := 1000000) only [go_sem] <;> exact rfl) (by simp only [go_sem]) (by simp (maxSteps := 1000000) only [go_sem] <;> exact rfl) ?_
    refine ARN.run1 (by simp (maxSteps := 1000000) only [go_sem] <;> exact rfl) ?_
    refine ARN.fin (by simp (disch := omega) only [go_sem, w64, wU] <;> exact rfl) ?_
    refine AW.regS rfl ?_
    refine ARN.run1 (by simp (maxSteps := 1000000) only [go_sem] <;> exact rfl) ?_
    refine ARN.pcall (fun hp => c31 s) rfl (by simp (maxSteps := 1000000) only [go_sem] <;> exact rfl) (by simp only [go_sem]) (by simp (maxSteps := 1000000) only [go_sem] <;> exact rfl) ?_
    refine ARN.run1 (by simp (maxSteps := 1000000) only [go_sem] <;> exact rfl) ?_
    refine ARN.fin (by simp (disch := omega) only [go_sem, w64, wU] <;> exact rfl) ?_
    refine AW.regS rfl ?_
    refine ARN.run1 (by simp (maxSteps := 1000000) only [go_sem] <;> exact rfl) ?_
    refine ARN.pcall (fun hp => c25 (rdS s 0) (rdS s 1) (rdS s 2) (rdS s 3) (rdS s 4) (rdS s 5) (rdS s 6) (rdS s 7)) rfl (by simp (maxSteps := 1000000) only [go_sem] <;> exact rfl) (by simp only [go_sem]) (by simp (maxSteps := 1000000) only [go_sem] <;> exact rfl) ?_
    refine ARN.run1 (by simp (maxSteps := 1000000) only [go_sem] <;> exact rfl) ?_
    refine ARN.fin (by simp (disch := omega) only [go_sem, w64, wU] <;> exact rfl) ?_
    have hsz : (putS (rdS s 0) (rdS s 1) (rdS s 2) (rdS s 3) (rdS s 4) (rdS s 5) (rdS s 6) (rdS s 7)).size + (restS s).size ≤ 9223372036854775807 := by have := putS_size (rdS s 0) (rdS s 1) (rdS s 2) (rdS s 3) (rdS s 4) (rdS s 5) (rdS s 6) (rdS s 7); have := restS_size s; omega
    have hsz2 : ((putS (rdS s 0) (rdS s 1) (rdS s 2) (rdS s 3) (rdS s 4) (rdS s 5) (rdS s 6) (rdS s 7)).size + (restS s).size ≤ 9223372036854775807) = True := eq_true hsz
    refine AW.regS rfl ?_
    refine ARN.run1 (by simp (maxSteps := 1000000) only [go_sem, hsz2] <;> exact rfl) ?_
    refine ARN.pcall (fun hp => c29) rfl (by simp (maxSteps := 1000000) only [go_sem, hsz2] <;> exact rfl) (by simp only [go_sem]) (by simp (maxSteps := 1000000) only [go_sem, hsz2] <;> exact rfl) ?_
    refine ARN.run1 (by simp (maxSteps := 1000000) only [go_sem, hsz2] <;> exact rfl) ?_
    refine ARN.fin (by simp (disch := omega) only [go_sem, w64, wU, hsz2] <;> exact rfl) ?_
    refine retK.fin rfl (by simp (maxSteps := 1000000) only [go_sem, hsz2] <;> exact rfl) (by simp (maxSteps := 1000000) only [go_sem, hsz2] <;> exact rfl) (.of ?_)
    by_cases he : errS s = 0
    · obtain ⟨h1, h2⟩ := read_put he; simp [he, h1, h2]
    · simp [he]
theorem c5 (a b c d e f g h : Int) (t : ByteArray) : PC Try.prog 5 [.agg [.int .i64 a, .int .i64 b, .int .i64 c, .int .i64 d, .int .i64 e, .int .i64 f, .int .i64 g, .int .i64 h], .str t] (.bool true) := by
  refine PC.start 46 Try.call5 Try.func5 rfl Try.ntmps5 Try.results5 (by simp only [go_sem]; exact rfl) fun z hz => ?_
  refine AW.regR rfl (by simp (maxSteps := 1000000) only [go_sem] <;> exact rfl) (by simp (disch := omega) only [go_sem, w64, wU] <;> exact rfl) ?_
  refine AW.seq ?_
  refine AW.regR rfl (by simp (maxSteps := 1000000) only [go_sem] <;> exact rfl) (by simp (disch := omega) only [go_sem, w64, wU] <;> exact rfl) ?_
  refine AW.cond (by simp (maxSteps := 1000000) only [go_sem] <;> exact rfl) (fun hc1 => ?_) (fun hc1 => ?_)
  · try simp only [decide_eq_true_eq, decide_eq_false_iff_not, Bool.or_eq_true, Bool.or_eq_false_iff, Bool.and_eq_true, Bool.and_eq_false_imp, Bool.not_eq_true', Bool.not_eq_false'] at hc1
    refine AW.regS rfl ?_
    refine ARN.pcall (fun hp => c29) rfl (by simp (maxSteps := 1000000) only [go_sem] <;> exact rfl) (by simp only [go_sem]) (by simp (maxSteps := 1000000) only [go_sem] <;> exact rfl) ?_
    refine ARN.run1 (by simp (maxSteps := 1000000) only [go_sem] <;> exact rfl) ?_
    refine ARN.fin (by simp (disch := omega) only [go_sem, w64, wU] <;> exact rfl) ?_
    refine retK.fin rfl (by simp (maxSteps := 1000000) only [go_sem] <;> exact rfl) (by simp (maxSteps := 1000000) only [go_sem] <;> exact rfl) (.of ?_)
    rfl
  · try simp only [decide_eq_true_eq, decide_eq_false_iff_not, Bool.or_eq_true, Bool.or_eq_false_iff, Bool.and_eq_true, Bool.and_eq_false_imp, Bool.not_eq_true', Bool.not_eq_false'] at hc1
    refine AW.skip ?_
    show AW _ _ _ _ _
    refine AW.regS rfl ?_
    refine ARN.run1 (by simp (maxSteps := 1000000) only [go_sem] <;> exact rfl) ?_
    refine ARN.pcall (fun hp => c25 a b c d e f g h) rfl (by simp (maxSteps := 1000000) only [go_sem] <;> exact rfl) (by simp only [go_sem]) (by simp (maxSteps := 1000000) only [go_sem] <;> exact rfl) ?_
    refine ARN.run1 (by simp (maxSteps := 1000000) only [go_sem] <;> exact rfl) ?_
    refine ARN.fin (by simp (disch := omega) only [go_sem, w64, wU] <;> exact rfl) ?_
    have hsz : (putS a b c d e f g h).size + t.size ≤ 9223372036854775807 := by have := putS_size a b c d e f g h; omega
    have hsz2 : ((putS a b c d e f g h).size + t.size ≤ 9223372036854775807) = True := eq_true hsz
    refine AW.regS rfl ?_
    refine ARN.run1 (by simp (maxSteps := 1000000) only [go_sem, hsz2] <;> exact rfl) ?_
    refine ARN.pcall (fun hp => c30 (putS a b c d e f g h ++ t)) rfl (by simp (maxSteps := 1000000) only [go_sem, hsz2] <;> exact rfl) (by simp only [go_sem]) (by simp (maxSteps := 1000000) only [go_sem, hsz2] <;> exact rfl) ?_
    refine ARN.run1 (by simp (maxSteps := 1000000) only [go_sem, hsz2] <;> exact rfl) ?_
    refine ARN.fin (by simp (disch := omega) only [go_sem, w64, wU, hsz2] <;> exact rfl) ?_
    refine AW.regS rfl ?_
    refine ARN.run1 (by simp (maxSteps := 1000000) only [go_sem, hsz2] <;> exact rfl) ?_
    refine ARN.pcall (fun hp => c29) rfl (by simp (maxSteps := 1000000) only [go_sem, hsz2] <;> exact rfl) (by simp only [go_sem]) (by simp (maxSteps := 1000000) only [go_sem, hsz2] <;> exact rfl) ?_
    refine ARN.run1 (by simp (maxSteps := 1000000) only [go_sem, hsz2] <;> exact rfl) ?_
    refine ARN.fin (by simp (disch := omega) only [go_sem, w64, wU, hsz2] <;> exact rfl) ?_
    refine retK.fin rfl (by simp (maxSteps := 1000000) only [go_sem, hsz2] <;> exact rfl) (by simp (maxSteps := 1000000) only [go_sem, hsz2] <;> exact rfl) (.of ?_)
    by_cases hk : ok8 a b c d e f g h
    · obtain ⟨h0, h1, h2, h3, h4, h5, h6, h7, h8, h9⟩ := put_read hk t; simp [chk_ok hk, h0, h1, h2, h3, h4, h5, h6, h7, h8, h9]
    · simp [chk_no hk]
end Go.Ab.Try
