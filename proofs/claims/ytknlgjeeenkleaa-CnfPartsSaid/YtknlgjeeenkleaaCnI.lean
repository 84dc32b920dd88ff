/- The laws of the clauses' layer. -/
import Derived.Test.YtknlgjeeenkleaaCnH
import Derived.Test.YtknlgjeeenkleaaCM
namespace Go.Ab.Try
open Go.Proofs Go.Ab
set_option linter.unusedVariables false
set_option linter.unusedSimpArgs false
set_option maxRecDepth 100000
theorem wfS (l : List (List Int)) (h : (l.all fun c => c.all fun x => decide (0 ≤ x ∧ x ≤ 100)) = true) (h1 : l.length ≤ 10) (h2 : ∀ c ∈ l, c.length ≤ 10) : Wf l :=
  ⟨by omega, fun c hc => ⟨by have := h2 c hc; omega, fun x hx => by
    rw [List.all_eq_true] at h
    have := h c hc
    rw [List.all_eq_true] at this
    have := of_decide_eq_true (this x hx)
    unfold I64; omega⟩⟩
theorem w02 : Wf [[0, 2]] := wfS _ (by decide) (by decide) (by decide)
theorem w01 : Wf [[0], [1]] := wfS _ (by decide) (by decide) (by decide)
theorem w2 : Wf [[2]] := wfS _ (by decide) (by decide) (by decide)
theorem w0s2 : Wf [[0], [2]] := wfS _ (by decide) (by decide) (by decide)
theorem wn : Wf [] := wfS _ (by decide) (by decide) (by decide)
theorem c83  : PC Try.prog 83 [] (.bool true) := by
  refine PC.start 84 Try.call83 Try.func83 rfl Try.ntmps83 Try.results83 (by simp only [go_sem]; exact rfl) fun z hz => ?_
  refine AW.regR rfl (by simp (maxSteps := 1000000) only [go_sem, bools, List.length_map] <;> exact rfl) (by simp (disch := omega) only [go_sem, w64, wU, bools, List.length_map] <;> exact rfl) ?_
  refine AW.regS rfl ?_
  refine ARN.run1 (by simp (maxSteps := 1000000) only [go_sem, bools, List.length_map] <;> exact rfl) ?_
  refine ARN.pcall (fun hp => (c88 2 [[0, 2]] w02).arg (ps := [.int .i64 2, .lst true 1 ([[0, 2]].map fun c => [cl true c])]) ⟨Sub.refl _, sub_cls1, trivial⟩) rfl (by simp (maxSteps := 1000000) only [go_sem, bools, List.length_map] <;> exact rfl) (by simp only [go_sem]) (by simp (maxSteps := 1000000) only [go_sem, bools, List.length_map] <;> exact rfl) ?_
  refine ARN.run1 (by simp (maxSteps := 1000000) only [go_sem, bools, List.length_map] <;> exact rfl) ?_
  refine ARN.fin (by simp (disch := omega) only [go_sem, w64, wU, bools, List.length_map] <;> exact rfl) ?_
  refine AW.regS rfl ?_
  refine ARN.run1 (by simp (maxSteps := 1000000) only [go_sem, bools, List.length_map] <;> exact rfl) ?_
  refine ARN.pcall (fun hp => (c90 2 [[0, 2]] w02).arg (ps := [.int .i64 2, .lst true 1 ([[0, 2]].map fun c => [cl true c])]) ⟨Sub.refl _, sub_cls1, trivial⟩) rfl (by simp (maxSteps := 1000000) only [go_sem, bools, List.length_map] <;> exact rfl) (by simp only [go_sem]) (by simp (maxSteps := 1000000) only [go_sem, bools, List.length_map] <;> exact rfl) ?_
  refine ARN.run1 (by simp (maxSteps := 1000000) only [go_sem, bools, List.length_map] <;> exact rfl) ?_
  refine ARN.fin (by simp (disch := omega) only [go_sem, w64, wU, bools, List.length_map] <;> exact rfl) ?_
  refine AW.regS rfl ?_
  refine ARN.run1 (by simp (maxSteps := 1000000) only [go_sem, bools, List.length_map] <;> exact rfl) ?_
  refine ARN.pcall (fun hp => (c90 1 [[0], [1]] w01).arg (ps := [.int .i64 1, .lst true 1 ([[0], [1]].map fun c => [cl true c])]) ⟨Sub.refl _, sub_cls1, trivial⟩) rfl (by simp (maxSteps := 1000000) only [go_sem, bools, List.length_map] <;> exact rfl) (by simp only [go_sem]) (by simp (maxSteps := 1000000) only [go_sem, bools, List.length_map] <;> exact rfl) ?_
  refine ARN.run1 (by simp (maxSteps := 1000000) only [go_sem, bools, List.length_map] <;> exact rfl) ?_
  refine ARN.fin (by simp (disch := omega) only [go_sem, w64, wU, bools, List.length_map] <;> exact rfl) ?_
  refine AW.regS rfl ?_
  refine ARN.pcall (fun hp => (c88 17 [] wn).arg (ps := [.int .i64 17, .lst true 0 []]) ⟨Sub.refl _, Sub.nil0 0 1 true, trivial⟩) rfl (by simp (maxSteps := 1000000) only [go_sem, bools, List.length_map] <;> exact rfl) (by simp only [go_sem]) (by simp (maxSteps := 1000000) only [go_sem, bools, List.length_map] <;> exact rfl) ?_
  refine ARN.run1 (by simp (maxSteps := 1000000) only [go_sem, bools, List.length_map] <;> exact rfl) ?_
  refine ARN.fin (by simp (disch := omega) only [go_sem, w64, wU, bools, List.length_map] <;> exact rfl) ?_
  refine AW.regS rfl ?_
  refine ARN.run1 (by simp (maxSteps := 1000000) only [go_sem, bools, List.length_map] <;> exact rfl) ?_
  refine ARN.pcall (fun hp => c92 (mF 2 [[0, 2]]) [true, false] false true (mF_len _ _) (by decide)) rfl (by simp (maxSteps := 1000000) only [go_sem, bools, List.length_map] <;> exact rfl) (by simp only [go_sem]) (by simp (maxSteps := 1000000) only [go_sem, bools, List.length_map] <;> exact rfl) ?_
  refine ARN.run1 (by simp (maxSteps := 1000000) only [go_sem, bools, List.length_map] <;> exact rfl) ?_
  refine ARN.pcall (fun hp => (c84 1 [[2]] w2).arg (ps := [.int .i64 1, .lst true 1 ([[2]].map fun c => [cl true c])]) ⟨Sub.refl _, sub_cls1, trivial⟩) rfl (by simp (maxSteps := 1000000) only [go_sem, bools, List.length_map] <;> exact rfl) (by simp only [go_sem]) (by simp (maxSteps := 1000000) only [go_sem, bools, List.length_map] <;> exact rfl) ?_
  refine ARN.run1 (by simp (maxSteps := 1000000) only [go_sem, bools, List.length_map] <;> exact rfl) ?_
  refine ARN.pcall (fun hp => (c86 [[0], [2]] true [true] w0s2).arg (ps := [.lst true 1 ([[0], [2]].map fun c => [cl true c]), bools true [true]]) ⟨sub_cls1, Sub.refl _, trivial⟩) rfl (by simp (maxSteps := 1000000) only [go_sem, bools, List.length_map] <;> exact rfl) (by simp only [go_sem]) (by simp (maxSteps := 1000000) only [go_sem, bools, List.length_map] <;> exact rfl) ?_
  refine ARN.run1 (by simp (maxSteps := 1000000) only [go_sem, bools, List.length_map] <;> exact rfl) ?_
  refine ARN.pcall (fun hp => (c86 [] false [] wn).arg (ps := [.lst true 0 [], .lst true 0 []]) ⟨Sub.nil0 0 1 true, Sub.nil0 0 1 true, trivial⟩) rfl (by simp (maxSteps := 1000000) only [go_sem, bools, List.length_map] <;> exact rfl) (by simp only [go_sem]) (by simp (maxSteps := 1000000) only [go_sem, bools, List.length_map] <;> exact rfl) ?_
  refine ARN.run1 (by simp (maxSteps := 1000000) only [go_sem, bools, List.length_map] <;> exact rfl) ?_
  refine ARN.fin (by simp (disch := omega) only [go_sem, w64, wU, bools, List.length_map] <;> exact rfl) ?_
  refine retK.fin rfl (by simp (maxSteps := 1000000) only [go_sem, bools, List.length_map] <;> exact rfl) (by simp (maxSteps := 1000000) only [go_sem, bools, List.length_map] <;> exact rfl) (.of ?_)
  exact congrArg PV.bool (by decide +kernel)
theorem c22 (vars : Int) (l : List (List Int)) (m : List Bool) (hl : Wf l) : PC Try.prog 22 [.int .i64 vars, cls l, bools false m] (.bool true) := by
  refine PC.start 35 Try.call22 Try.func22 rfl Try.ntmps22 Try.results22 (by simp only [go_sem]; exact rfl) fun z hz => ?_
  refine AW.regR rfl (by simp (maxSteps := 1000000) only [go_sem, bools, List.length_map] <;> exact rfl) (by simp (disch := omega) only [go_sem, w64, wU, bools, List.length_map] <;> exact rfl) ?_
  refine AW.seq ?_
  refine AW.regS rfl ?_
  refine ARN.run1 (by simp (maxSteps := 1000000) only [go_sem, bools, List.length_map] <;> exact rfl) ?_
  refine ARN.pcall (fun hp => c82 l 100 hl) rfl (by simp (maxSteps := 1000000) only [go_sem, bools, List.length_map] <;> exact rfl) (by simp only [go_sem]) (by simp (maxSteps := 1000000) only [go_sem, bools, List.length_map] <;> exact rfl) ?_
  refine ARN.run1 (by simp (maxSteps := 1000000) only [go_sem, bools, List.length_map] <;> exact rfl) ?_
  refine ARN.fin (by simp (disch := omega) only [go_sem, w64, wU, bools, List.length_map] <;> exact rfl) ?_
  refine AW.cond (by simp (maxSteps := 1000000) only [go_sem, bools, List.length_map] <;> exact rfl) (fun hc1 => ?_) (fun hc1 => ?_)
  · try simp only [decide_eq_true_eq, decide_eq_false_iff_not, Bool.or_eq_true, Bool.or_eq_false_iff, Bool.and_eq_true, Bool.and_eq_false_imp, Bool.not_eq_true', Bool.not_eq_false'] at hc1
    refine AW.regS rfl ?_
    refine ARN.pcall (fun hp => c83) rfl (by simp (maxSteps := 1000000) only [go_sem, bools, List.length_map] <;> exact rfl) (by simp only [go_sem]) (by simp (maxSteps := 1000000) only [go_sem, bools, List.length_map] <;> exact rfl) ?_
    refine ARN.run1 (by simp (maxSteps := 1000000) only [go_sem, bools, List.length_map] <;> exact rfl) ?_
    refine ARN.fin (by simp (disch := omega) only [go_sem, w64, wU, bools, List.length_map] <;> exact rfl) ?_
    refine retK.fin rfl (by simp (maxSteps := 1000000) only [go_sem, bools, List.length_map] <;> exact rfl) (by simp (maxSteps := 1000000) only [go_sem, bools, List.length_map] <;> exact rfl) (.of ?_)
    rfl
  · try simp only [decide_eq_true_eq, decide_eq_false_iff_not, Bool.or_eq_true, Bool.or_eq_false_iff, Bool.and_eq_true, Bool.and_eq_false_imp, Bool.not_eq_true', Bool.not_eq_false'] at hc1
    refine AW.skip ?_
    show AW _ _ _ _ _
    refine AW.regS rfl ?_
    refine ARN.run1 (by simp (maxSteps := 1000000) only [go_sem, bools, List.length_map] <;> exact rfl) ?_
    refine ARN.pcall (fun hp => c84 vars l hl) rfl (by simp (maxSteps := 1000000) only [go_sem, bools, List.length_map] <;> exact rfl) (by simp only [go_sem]) (by simp (maxSteps := 1000000) only [go_sem, bools, List.length_map] <;> exact rfl) ?_
    refine ARN.run1 (by simp (maxSteps := 1000000) only [go_sem, bools, List.length_map] <;> exact rfl) ?_
    refine ARN.pcall (fun hp => c85 vars l hl) rfl (by simp (maxSteps := 1000000) only [go_sem, bools, List.length_map] <;> exact rfl) (by simp only [go_sem]) (by simp (maxSteps := 1000000) only [go_sem, bools, List.length_map] <;> exact rfl) ?_
    refine ARN.run1 (by simp (maxSteps := 1000000) only [go_sem, bools, List.length_map] <;> exact rfl) ?_
    refine ARN.pcall (fun hp => c86 l false m hl) rfl (by simp (maxSteps := 1000000) only [go_sem, bools, List.length_map] <;> exact rfl) (by simp only [go_sem]) (by simp (maxSteps := 1000000) only [go_sem, bools, List.length_map] <;> exact rfl) ?_
    refine ARN.run1 (by simp (maxSteps := 1000000) only [go_sem, bools, List.length_map] <;> exact rfl) ?_
    refine ARN.pcall (fun hp => c87 l false m hl) rfl (by simp (maxSteps := 1000000) only [go_sem, bools, List.length_map] <;> exact rfl) (by simp only [go_sem]) (by simp (maxSteps := 1000000) only [go_sem, bools, List.length_map] <;> exact rfl) ?_
    refine ARN.run1 (by simp (maxSteps := 1000000) only [go_sem, bools, List.length_map] <;> exact rfl) ?_
    refine ARN.pcall (fun hp => c83) rfl (by simp (maxSteps := 1000000) only [go_sem, bools, List.length_map] <;> exact rfl) (by simp only [go_sem]) (by simp (maxSteps := 1000000) only [go_sem, bools, List.length_map] <;> exact rfl) ?_
    refine ARN.run1 (by simp (maxSteps := 1000000) only [go_sem, bools, List.length_map] <;> exact rfl) ?_
    refine ARN.fin (by simp (disch := omega) only [go_sem, w64, wU, bools, List.length_map] <;> exact rfl) ?_
    refine retK.fin rfl (by simp (maxSteps := 1000000) only [go_sem, bools, List.length_map] <;> exact rfl) (by simp (maxSteps := 1000000) only [go_sem, bools, List.length_map] <;> exact rfl) (.of ?_)
    simp
theorem c23 (vars : Int) (l : List (List Int)) (hl : Wf l) : PC Try.prog 23 [.int .i64 vars, cls l] (.bool true) := by
  refine PC.start 79 Try.call23 Try.func23 rfl Try.ntmps23 Try.results23 (by simp only [go_sem]; exact rfl) fun z hz => ?_
  refine AW.regR rfl (by simp (maxSteps := 1000000) only [go_sem, bools, List.length_map] <;> exact rfl) (by simp (disch := omega) only [go_sem, w64, wU, bools, List.length_map] <;> exact rfl) ?_
  refine AW.seq ?_
  refine AW.regS rfl ?_
  refine ARN.run1 (by simp (maxSteps := 1000000) only [go_sem, bools, List.length_map] <;> exact rfl) ?_
  refine ARN.pcall (fun hp => c82 l 60 hl) rfl (by simp (maxSteps := 1000000) only [go_sem, bools, List.length_map] <;> exact rfl) (by simp only [go_sem]) (by simp (maxSteps := 1000000) only [go_sem, bools, List.length_map] <;> exact rfl) ?_
  refine ARN.run1 (by simp (maxSteps := 1000000) only [go_sem, bools, List.length_map] <;> exact rfl) ?_
  refine ARN.fin (by simp (disch := omega) only [go_sem, w64, wU, bools, List.length_map] <;> exact rfl) ?_
  refine AW.cond (by simp (maxSteps := 1000000) only [go_sem, bools, List.length_map] <;> exact rfl) (fun hc1 => ?_) (fun hc1 => ?_)
  · try simp only [decide_eq_true_eq, decide_eq_false_iff_not, Bool.or_eq_true, Bool.or_eq_false_iff, Bool.and_eq_true, Bool.and_eq_false_imp, Bool.not_eq_true', Bool.not_eq_false'] at hc1
    refine AW.regS rfl ?_
    refine ARN.pcall (fun hp => c83) rfl (by simp (maxSteps := 1000000) only [go_sem, bools, List.length_map] <;> exact rfl) (by simp only [go_sem]) (by simp (maxSteps := 1000000) only [go_sem, bools, List.length_map] <;> exact rfl) ?_
    refine ARN.run1 (by simp (maxSteps := 1000000) only [go_sem, bools, List.length_map] <;> exact rfl) ?_
    refine ARN.fin (by simp (disch := omega) only [go_sem, w64, wU, bools, List.length_map] <;> exact rfl) ?_
    refine retK.fin rfl (by simp (maxSteps := 1000000) only [go_sem, bools, List.length_map] <;> exact rfl) (by simp (maxSteps := 1000000) only [go_sem, bools, List.length_map] <;> exact rfl) (.of ?_)
    rfl
  · try simp only [decide_eq_true_eq, decide_eq_false_iff_not, Bool.or_eq_true, Bool.or_eq_false_iff, Bool.and_eq_true, Bool.and_eq_false_imp, Bool.not_eq_true', Bool.not_eq_false'] at hc1
    refine AW.skip ?_
    show AW _ _ _ _ _
    refine AW.regS rfl ?_
    refine ARN.run1 (by simp (maxSteps := 1000000) only [go_sem, bools, List.length_map] <;> exact rfl) ?_
    refine ARN.pcall (fun hp => c88 vars l hl) rfl (by simp (maxSteps := 1000000) only [go_sem, bools, List.length_map] <;> exact rfl) (by simp only [go_sem]) (by simp (maxSteps := 1000000) only [go_sem, bools, List.length_map] <;> exact rfl) ?_
    refine ARN.run1 (by simp (maxSteps := 1000000) only [go_sem, bools, List.length_map] <;> exact rfl) ?_
    refine ARN.fin (by simp (disch := omega) only [go_sem, w64, wU, bools, List.length_map] <;> exact rfl) ?_
    refine AW.regS rfl ?_
    refine ARN.run1 (by simp (maxSteps := 1000000) only [go_sem, bools, List.length_map] <;> exact rfl) ?_
    refine ARN.pcall (fun hp => c89 vars l hl) rfl (by simp (maxSteps := 1000000) only [go_sem, bools, List.length_map] <;> exact rfl) (by simp only [go_sem]) (by simp (maxSteps := 1000000) only [go_sem, bools, List.length_map] <;> exact rfl) ?_
    refine ARN.run1 (by simp (maxSteps := 1000000) only [go_sem, bools, List.length_map] <;> exact rfl) ?_
    refine ARN.fin (by simp (disch := omega) only [go_sem, w64, wU, bools, List.length_map] <;> exact rfl) ?_
    refine AW.regS rfl ?_
    refine ARN.run1 (by simp (maxSteps := 1000000) only [go_sem, bools, List.length_map] <;> exact rfl) ?_
    refine ARN.pcall (fun hp => c90 vars l hl) rfl (by simp (maxSteps := 1000000) only [go_sem, bools, List.length_map] <;> exact rfl) (by simp only [go_sem]) (by simp (maxSteps := 1000000) only [go_sem, bools, List.length_map] <;> exact rfl) ?_
    refine ARN.run1 (by simp (maxSteps := 1000000) only [go_sem, bools, List.length_map] <;> exact rfl) ?_
    refine ARN.fin (by simp (disch := omega) only [go_sem, w64, wU, bools, List.length_map] <;> exact rfl) ?_
    refine AW.regS rfl ?_
    refine ARN.run1 (by simp (maxSteps := 1000000) only [go_sem, bools, List.length_map] <;> exact rfl) ?_
    refine ARN.pcall (fun hp => c91 vars l hl) rfl (by simp (maxSteps := 1000000) only [go_sem, bools, List.length_map] <;> exact rfl) (by simp only [go_sem]) (by simp (maxSteps := 1000000) only [go_sem, bools, List.length_map] <;> exact rfl) ?_
    refine ARN.run1 (by simp (maxSteps := 1000000) only [go_sem, bools, List.length_map] <;> exact rfl) ?_
    refine ARN.fin (by simp (disch := omega) only [go_sem, w64, wU, bools, List.length_map] <;> exact rfl) ?_
    refine AW.regS rfl ?_
    refine ARN.run1 (by simp (maxSteps := 1000000) only [go_sem, bools, List.length_map] <;> exact rfl) ?_
    refine ARN.pcall (fun hp => c92 (mF vars l) (mF vars l) false false (mF_len _ _) (mF_len _ _)) rfl (by simp (maxSteps := 1000000) only [go_sem, bools, List.length_map] <;> exact rfl) (by simp only [go_sem]) (by simp (maxSteps := 1000000) only [go_sem, bools, List.length_map] <;> exact rfl) ?_
    refine ARN.run1 (by simp (maxSteps := 1000000) only [go_sem, bools, List.length_map] <;> exact rfl) ?_
    refine ARN.pcall (fun hp => c83) rfl (by simp (maxSteps := 1000000) only [go_sem, bools, List.length_map] <;> exact rfl) (by simp only [go_sem]) (by simp (maxSteps := 1000000) only [go_sem, bools, List.length_map] <;> exact rfl) ?_
    refine ARN.run1 (by simp (maxSteps := 1000000) only [go_sem, bools, List.length_map] <;> exact rfl) ?_
    refine ARN.fin (by simp (disch := omega) only [go_sem, w64, wU, bools, List.length_map] <;> exact rfl) ?_
    refine retK.fin rfl (by simp (maxSteps := 1000000) only [go_sem, bools, List.length_map] <;> exact rfl) (by simp (maxSteps := 1000000) only [go_sem, bools, List.length_map] <;> exact rfl) (.of ?_)
    simp
theorem c24 (vars : Int) (l : List (List Int)) (v : Int) (hl : Wf l) (hv : 0 ≤ v ∧ v < 256) : PC Try.prog 24 [.int .i64 vars, cls l, .int .u8 v] (.bool true) := by
  refine PC.start 76 Try.call24 Try.func24 rfl Try.ntmps24 Try.results24 (by simp only [go_sem]; exact rfl) fun z hz => ?_
  refine AW.regR rfl (by simp (maxSteps := 1000000) only [go_sem, cls, List.length_map, List.length_append, Nat.zero_add] <;> exact rfl) (by simp (disch := omega) only [go_sem, w64, wU, cls, List.length_map, List.length_append, Nat.zero_add] <;> exact rfl) ?_
  refine AW.seq ?_
  refine AW.regS rfl ?_
  refine ARN.run1 (by simp (maxSteps := 1000000) only [go_sem, cls, List.length_map, List.length_append, Nat.zero_add] <;> exact rfl) ?_
  refine ARN.pcall (fun hp => c82 l 60 hl) rfl (by simp (maxSteps := 1000000) only [go_sem, cls, List.length_map, List.length_append, Nat.zero_add] <;> exact rfl) (by simp only [go_sem]) (by simp (maxSteps := 1000000) only [go_sem, cls, List.length_map, List.length_append, Nat.zero_add] <;> exact rfl) ?_
  refine ARN.run1 (by simp (maxSteps := 1000000) only [go_sem, cls, List.length_map, List.length_append, Nat.zero_add] <;> exact rfl) ?_
  refine ARN.pcall (fun hp => c84 vars l hl) rfl (by simp (maxSteps := 1000000) only [go_sem, cls, List.length_map, List.length_append, Nat.zero_add] <;> exact rfl) (by simp only [go_sem]) (by simp (maxSteps := 1000000) only [go_sem, cls, List.length_map, List.length_append, Nat.zero_add] <;> exact rfl) ?_
  refine ARN.run1 (by simp (maxSteps := 1000000) only [go_sem, cls, List.length_map, List.length_append, Nat.zero_add] <;> exact rfl) ?_
  refine ARN.fin (by simp (disch := omega) only [go_sem, w64, wU, cls, List.length_map, List.length_append, Nat.zero_add] <;> exact rfl) ?_
  refine AW.cond (by simp (maxSteps := 1000000) only [go_sem, cls, List.length_map, List.length_append, Nat.zero_add] <;> exact rfl) (fun hc1 => ?_) (fun hc1 => ?_)
  · try simp only [decide_eq_true_eq, decide_eq_false_iff_not, Bool.or_eq_true, Bool.or_eq_false_iff, Bool.and_eq_true, Bool.and_eq_false_imp, Bool.not_eq_true', Bool.not_eq_false'] at hc1
    refine AW.regS rfl ?_
    refine ARN.pcall (fun hp => c83) rfl (by simp (maxSteps := 1000000) only [go_sem, cls, List.length_map, List.length_append, Nat.zero_add] <;> exact rfl) (by simp only [go_sem]) (by simp (maxSteps := 1000000) only [go_sem, cls, List.length_map, List.length_append, Nat.zero_add] <;> exact rfl) ?_
    refine ARN.run1 (by simp (maxSteps := 1000000) only [go_sem, cls, List.length_map, List.length_append, Nat.zero_add] <;> exact rfl) ?_
    refine ARN.fin (by simp (disch := omega) only [go_sem, w64, wU, cls, List.length_map, List.length_append, Nat.zero_add] <;> exact rfl) ?_
    refine retK.fin rfl (by simp (maxSteps := 1000000) only [go_sem, cls, List.length_map, List.length_append, Nat.zero_add] <;> exact rfl) (by simp (maxSteps := 1000000) only [go_sem, cls, List.length_map, List.length_append, Nat.zero_add] <;> exact rfl) (.of ?_)
    rfl
  · try simp only [decide_eq_true_eq, decide_eq_false_iff_not, Bool.or_eq_true, Bool.or_eq_false_iff, Bool.and_eq_true, Bool.and_eq_false_imp, Bool.not_eq_true', Bool.not_eq_false'] at hc1
    refine AW.skip ?_
    show AW _ _ _ _ _
    have hlen := few_len (fun h => hc1.1.1.1 h)
    have hch : chkC vars l = 0 := by (have := hc1.2); first | exact this | exact Classical.not_not.1 this
    obtain ⟨u, hu⟩ : ∃ u, u = v.tmod vars := ⟨_, rfl⟩
    have hu2 : 0 ≤ u ∧ u < vars := by (rw [hu, Int.tmod_eq_emod_of_nonneg hv.1]; exact ⟨Int.emod_nonneg _ (by omega), Int.emod_lt_of_pos _ (by omega)⟩)
    have htm : v.tmod vars = u := hu.symm
    have hv0 : ¬ vars = 0 := by omega
    have hwv : IntKind.i64.wrap v = v := w64 (by omega) (by omega)
    refine AW.regR rfl (by simp (maxSteps := 1000000) only [go_sem, cls, List.length_map, List.length_append, Nat.zero_add, htm, hv0, hwv] <;> exact rfl) (by simp (disch := omega) only [go_sem, w64, wU, cls, List.length_map, List.length_append, Nat.zero_add, htm, hv0, hwv] <;> exact rfl) ?_
    have ha1 : (l.length * 24 ≤ 140737488355328) = True := eq_true (by omega)
    have ha2 : (l.length ≤ 140737488355328) = True := eq_true (by omega)
    have ha3 : ((l.length + 1) * 24 ≤ 140737488355328) = True := eq_true (by omega)
    have ha4 : (l.length + 1 ≤ 140737488355328) = True := eq_true (by omega)
    have htk : List.take (l.length + 1) ((l.map fun c => [cl false c]) ++ [[PV.lst true 1 [[.int .i64 (2 * u)]]]]) = (l.map fun c => [cl false c]) ++ [[.lst true 1 [[.int .i64 (2 * u)]]]] := List.take_of_length_le (by simp)
    refine AW.regL ?_
    refine AWL.runGP 3 rfl rfl (by simp (maxSteps := 1000000) only [go_sem, cls, List.length_map, List.length_append, Nat.zero_add, htm, hv0, hwv, ha1, ha2, ha3, ha4, htk] <;> exact rfl) ?_
    refine (Wk.vec 1 39 _ rfl).awl ?_
    refine AWL.runG (by simp (maxSteps := 1000000) only [go_sem, cls, List.length_map, List.length_append, Nat.zero_add, htm, hv0, hwv, ha1, ha2, ha3, ha4, htk] <;> exact rfl) ?_
    refine AWL.pcallB2 ((c88 vars (l ++ [[2 * u]]) (wf_app hl (by omega) (by unfold I64; omega))).arg (ps := [.int .i64 vars, .lst false 1 ((l.map fun c => [cl false c]) ++ [[.lst true 1 [[.int .i64 (2 * u)]]]])]) ⟨Sub.refl _, sub_app, trivial⟩) rfl (by simp (maxSteps := 1000000) only [go_sem, cls, List.length_map, List.length_append, Nat.zero_add, htm, hv0, hwv, ha1, ha2, ha3, ha4, htk] <;> exact rfl) rfl (by simp (maxSteps := 1000000) only [go_sem, cls, List.length_map, List.length_append, Nat.zero_add, htm, hv0, hwv, ha1, ha2, ha3, ha4, htk] <;> exact rfl) (by simp (maxSteps := 1000000) only [go_sem, cls, List.length_map, List.length_append, Nat.zero_add, htm, hv0, hwv, ha1, ha2, ha3, ha4, htk] <;> exact rfl) ?_
    refine AWL.runG (by simp (maxSteps := 1000000) only [go_sem, cls, List.length_map, List.length_append, Nat.zero_add, htm, hv0, hwv, ha1, ha2, ha3, ha4, htk] <;> exact rfl) ?_
    refine AWL.fin (by simp (disch := omega) only [go_sem, w64, wU, cls, List.length_map, List.length_append, Nat.zero_add, htm, hv0, hwv, ha1, ha2, ha3, ha4, htk] <;> exact rfl) ?_
    have hx1 : IntKind.i64.wrap (2 * u + 1) = 2 * u + 1 := w64 (by omega) (by omega)
    have htk1 : List.take (l.length + 1) ((l.map fun c => [cl false c]) ++ [[PV.lst true 1 [[.int .i64 (2 * u + 1)]]]]) = (l.map fun c => [cl false c]) ++ [[.lst true 1 [[.int .i64 (2 * u + 1)]]]] := List.take_of_length_le (by simp)
    refine AW.regL ?_
    refine AWL.runGP 3 rfl rfl (by simp (maxSteps := 1000000) only [go_sem, cls, List.length_map, List.length_append, Nat.zero_add, htm, hv0, hwv, ha1, ha2, ha3, ha4, htk, hx1, htk1] <;> exact rfl) ?_
    refine (Wk.vec 1 51 _ rfl).awl ?_
    refine AWL.runG (by simp (maxSteps := 1000000) only [go_sem, cls, List.length_map, List.length_append, Nat.zero_add, htm, hv0, hwv, ha1, ha2, ha3, ha4, htk, hx1, htk1] <;> exact rfl) ?_
    refine AWL.pcallB2 ((c88 vars (l ++ [[2 * u + 1]]) (wf_app hl (by omega) (by unfold I64; omega))).arg (ps := [.int .i64 vars, .lst false 1 ((l.map fun c => [cl false c]) ++ [[.lst true 1 [[.int .i64 (2 * u + 1)]]]])]) ⟨Sub.refl _, sub_app, trivial⟩) rfl (by simp (maxSteps := 1000000) only [go_sem, cls, List.length_map, List.length_append, Nat.zero_add, htm, hv0, hwv, ha1, ha2, ha3, ha4, htk, hx1, htk1] <;> exact rfl) rfl (by simp (maxSteps := 1000000) only [go_sem, cls, List.length_map, List.length_append, Nat.zero_add, htm, hv0, hwv, ha1, ha2, ha3, ha4, htk, hx1, htk1] <;> exact rfl) (by simp (maxSteps := 1000000) only [go_sem, cls, List.length_map, List.length_append, Nat.zero_add, htm, hv0, hwv, ha1, ha2, ha3, ha4, htk, hx1, htk1] <;> exact rfl) ?_
    refine AWL.runG (by simp (maxSteps := 1000000) only [go_sem, cls, List.length_map, List.length_append, Nat.zero_add, htm, hv0, hwv, ha1, ha2, ha3, ha4, htk, hx1, htk1] <;> exact rfl) ?_
    refine AWL.fin (by simp (disch := omega) only [go_sem, w64, wU, cls, List.length_map, List.length_append, Nat.zero_add, htm, hv0, hwv, ha1, ha2, ha3, ha4, htk, hx1, htk1] <;> exact rfl) ?_
    refine AW.regS rfl ?_
    refine ARN.run1 (by simp (maxSteps := 1000000) only [go_sem, cls, List.length_map, List.length_append, Nat.zero_add, htm, hv0, hwv, ha1, ha2, ha3, ha4, htk, hx1, htk1] <;> exact rfl) ?_
    refine ARN.pcall (fun hp => c88 vars l hl) rfl (by simp (maxSteps := 1000000) only [go_sem, cls, List.length_map, List.length_append, Nat.zero_add, htm, hv0, hwv, ha1, ha2, ha3, ha4, htk, hx1, htk1] <;> exact rfl) (by simp only [go_sem]) (by simp (maxSteps := 1000000) only [go_sem, cls, List.length_map, List.length_append, Nat.zero_add, htm, hv0, hwv, ha1, ha2, ha3, ha4, htk, hx1, htk1] <;> exact rfl) ?_
    refine ARN.run1 (by simp (maxSteps := 1000000) only [go_sem, cls, List.length_map, List.length_append, Nat.zero_add, htm, hv0, hwv, ha1, ha2, ha3, ha4, htk, hx1, htk1] <;> exact rfl) ?_
    refine ARN.fin (by simp (disch := omega) only [go_sem, w64, wU, cls, List.length_map, List.length_append, Nat.zero_add, htm, hv0, hwv, ha1, ha2, ha3, ha4, htk, hx1, htk1] <;> exact rfl) ?_
    refine AW.regS rfl ?_
    refine ARN.run1 (by simp (maxSteps := 1000000) only [go_sem, cls, List.length_map, List.length_append, Nat.zero_add, htm, hv0, hwv, ha1, ha2, ha3, ha4, htk, hx1, htk1] <;> exact rfl) ?_
    refine ARN.pcall (fun hp => c83) rfl (by simp (maxSteps := 1000000) only [go_sem, cls, List.length_map, List.length_append, Nat.zero_add, htm, hv0, hwv, ha1, ha2, ha3, ha4, htk, hx1, htk1] <;> exact rfl) (by simp only [go_sem]) (by simp (maxSteps := 1000000) only [go_sem, cls, List.length_map, List.length_append, Nat.zero_add, htm, hv0, hwv, ha1, ha2, ha3, ha4, htk, hx1, htk1] <;> exact rfl) ?_
    refine ARN.run1 (by simp (maxSteps := 1000000) only [go_sem, cls, List.length_map, List.length_append, Nat.zero_add, htm, hv0, hwv, ha1, ha2, ha3, ha4, htk, hx1, htk1] <;> exact rfl) ?_
    refine ARN.fin (by simp (disch := omega) only [go_sem, w64, wU, cls, List.length_map, List.length_append, Nat.zero_add, htm, hv0, hwv, ha1, ha2, ha3, ha4, htk, hx1, htk1] <;> exact rfl) ?_
    refine retK.fin rfl (by simp (maxSteps := 1000000) only [go_sem, cls, List.length_map, List.length_append, Nat.zero_add, htm, hv0, hwv, ha1, ha2, ha3, ha4, htk, hx1, htk1] <;> exact rfl) (by simp (maxSteps := 1000000) only [go_sem, cls, List.length_map, List.length_append, Nat.zero_add, htm, hv0, hwv, ha1, ha2, ha3, ha4, htk, hx1, htk1] <;> exact rfl) (.of ?_)
    obtain ⟨h1, h2, h3⟩ := parts_law hch (by omega) (by omega) (by omega) hu2.1 hu2.2
    rw [h1, w64 (by omega) (by omega)]; simp
end Go.Ab.Try
