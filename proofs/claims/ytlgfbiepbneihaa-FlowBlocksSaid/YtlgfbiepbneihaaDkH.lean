/- A deed; the example; what any device tells. -/
import Derived.Test.YtlgfbiepbneihaaDkG
namespace Go.Ab.Try
open Go.Proofs Go.Ab
set_option linter.unusedVariables false
set_option linter.unusedSimpArgs false
set_option linter.unnecessarySimpa false
set_option maxRecDepth 100000
theorem rr (D : List Int) (l : List Pn) (e b : Int) (hb : 0 ≤ b) (hs : Sm D l) : PC Try.prog 86 [devV D l e, .int .u64 b] (.tup [.int .u64 (rdV D l b), .bool (rdO D b)]) := by rw [← rd_is]; exact c86 D l e b hb hs
theorem c25 (D : List Int) (l : List Pn) (e : Int) : PC Try.prog 25 [devV D l e] (.int .i64 (fewD D l)) := by
  refine PC.start 13 Try.call25 Try.func25 rfl Try.ntmps25 Try.results25 (by simp only [go_sem]; exact rfl) fun z hz => ?_
  refine AW.regR rfl (by simp (maxSteps := 1000000) only [go_sem, List.length_map] <;> exact rfl) (by first | (simp (disch := omega) only [go_sem, w64, wU, List.length_map] <;> exact rfl) | exact rfl) ?_
  refine AW.seq ?_
  refine AW.regR rfl (by simp (maxSteps := 1000000) only [go_sem, List.length_map] <;> exact rfl) (by first | (simp (disch := omega) only [go_sem, w64, wU, List.length_map] <;> exact rfl) | exact rfl) ?_
  refine AW.cond (by simp (maxSteps := 1000000) only [go_sem, List.length_map] <;> exact rfl) (fun hc1 => ?_) (fun hc1 => ?_)
  · try simp only [decide_eq_true_eq, decide_eq_false_iff_not, Bool.or_eq_true, Bool.or_eq_false_iff, Bool.and_eq_true, Bool.and_eq_false_imp, Bool.not_eq_true', Bool.not_eq_false'] at hc1
    refine AW.regR rfl (by simp (maxSteps := 1000000) only [go_sem, List.length_map] <;> exact rfl) (by first | (simp (disch := omega) only [go_sem, w64, wU, List.length_map] <;> exact rfl) | exact rfl) ?_
    refine retK.fin rfl (by simp (maxSteps := 1000000) only [go_sem, List.length_map] <;> exact rfl) (by simp (maxSteps := 1000000) only [go_sem, List.length_map] <;> exact rfl) (.of ?_)
    unfold fewD; rw [if_pos (by omega)]
  · try simp only [decide_eq_true_eq, decide_eq_false_iff_not, Bool.or_eq_true, Bool.or_eq_false_iff, Bool.and_eq_true, Bool.and_eq_false_imp, Bool.not_eq_true', Bool.not_eq_false'] at hc1
    refine AW.skip ?_
    show AW _ _ _ _ _
    refine AW.regR rfl (by simp (maxSteps := 1000000) only [go_sem, List.length_map] <;> exact rfl) (by first | (simp (disch := omega) only [go_sem, w64, wU, List.length_map] <;> exact rfl) | exact rfl) ?_
    refine retK.fin rfl (by simp (maxSteps := 1000000) only [go_sem, List.length_map] <;> exact rfl) (by simp (maxSteps := 1000000) only [go_sem, List.length_map] <;> exact rfl) (.of ?_)
    unfold fewD; rw [if_neg (by omega)]
end Go.Ab.Try
