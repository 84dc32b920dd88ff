/- A deed; the example; what any device tells. -/
import Derived.Test.YtknlgjeeenkleaaDkG
namespace Go.Ab.Try
open Go.Proofs Go.Ab
set_option linter.unusedVariables false
set_option linter.unusedSimpArgs false
set_option maxRecDepth 100000
theorem rr (D : List Int) (l : List Pn) (e b : Int) (hb : 0 ≤ b) (hs : Sm D l) : PC Try.prog 35 [devV D l e, .int .u64 b] (.tup [.int .u64 (rdV D l b), .bool (rdO D b)]) := by rw [← rd_is]; exact c35 D l e b hb hs
theorem c46 (D : List Int) (l : List Pn) (e k b v most : Int) (hb : 0 ≤ b) (hs : Sm D l) : PC Try.prog 46 [devV D l e, .agg [.int .i64 k, .int .u64 b, .int .u64 v], .int .i64 most] (devV (doDD D l k) (doLL D l e k b v most) (doEE l e k)) := by
  refine PC.start 33 Try.call46 Try.func46 rfl Try.ntmps46 Try.results46 (by simp only [go_sem]; exact rfl) fun z hz => ?_
  refine AW.regR rfl (by simp (maxSteps := 1000000) only [go_sem] <;> exact rfl) (by simp (disch := omega) only [go_sem, w64, wU] <;> exact rfl) ?_
  refine AW.seq ?_
  refine AW.regR rfl (by simp (maxSteps := 1000000) only [go_sem] <;> exact rfl) (by simp (disch := omega) only [go_sem, w64, wU] <;> exact rfl) ?_
  refine AW.block ?_
  refine AW.regR rfl (by simp (maxSteps := 1000000) only [go_sem] <;> exact rfl) (by simp (disch := omega) only [go_sem, w64, wU] <;> exact rfl) ?_
  refine AW.cond (by simp (maxSteps := 1000000) only [go_sem] <;> exact rfl) (fun hc1 => ?_) (fun hc1 => ?_)
  · try simp only [decide_eq_true_eq, decide_eq_false_iff_not, Bool.or_eq_true, Bool.or_eq_false_iff, Bool.and_eq_true, Bool.and_eq_false_imp, Bool.not_eq_true', Bool.not_eq_false'] at hc1
    refine AW.regS rfl ?_
    refine ARN.run1 (by simp (maxSteps := 1000000) only [go_sem] <;> exact rfl) ?_
    refine ARN.pcall (fun hp => c36 D l e b v most hb hs) rfl (by simp (maxSteps := 1000000) only [go_sem] <;> exact rfl) (by simp only [go_sem]) (by simp (maxSteps := 1000000) only [go_sem] <;> exact rfl) ?_
    refine ARN.run1 (by simp (maxSteps := 1000000) only [go_sem] <;> exact rfl) ?_
    refine ARN.fin (by simp (disch := omega) only [go_sem, w64, wU] <;> exact rfl) ?_
    refine AW.regR rfl (by simp (maxSteps := 1000000) only [go_sem] <;> exact rfl) (by simp (disch := omega) only [go_sem, w64, wU] <;> exact rfl) ?_
    refine retK.fin rfl (by simp (maxSteps := 1000000) only [go_sem] <;> exact rfl) (by simp (maxSteps := 1000000) only [go_sem] <;> exact rfl) (.of ?_)
    simp [doDD, doLL, doEE, hc1, devV]
  · try simp only [decide_eq_true_eq, decide_eq_false_iff_not, Bool.or_eq_true, Bool.or_eq_false_iff, Bool.and_eq_true, Bool.and_eq_false_imp, Bool.not_eq_true', Bool.not_eq_false'] at hc1
    refine AW.regR rfl (by simp (maxSteps := 1000000) only [go_sem] <;> exact rfl) (by simp (disch := omega) only [go_sem, w64, wU] <;> exact rfl) ?_
    refine AW.cond (by simp (maxSteps := 1000000) only [go_sem] <;> exact rfl) (fun hc2 => ?_) (fun hc2 => ?_)
    · try simp only [decide_eq_true_eq, decide_eq_false_iff_not, Bool.or_eq_true, Bool.or_eq_false_iff, Bool.and_eq_true, Bool.and_eq_false_imp, Bool.not_eq_true', Bool.not_eq_false'] at hc2
      refine AW.regS rfl ?_
      refine ARN.run1 (by simp (maxSteps := 1000000) only [go_sem] <;> exact rfl) ?_
      refine ARN.pcall (fun hp => c39 D l e hs) rfl (by simp (maxSteps := 1000000) only [go_sem] <;> exact rfl) (by simp only [go_sem]) (by simp (maxSteps := 1000000) only [go_sem] <;> exact rfl) ?_
      refine ARN.run1 (by simp (maxSteps := 1000000) only [go_sem] <;> exact rfl) ?_
      refine ARN.fin (by simp (disch := omega) only [go_sem, w64, wU] <;> exact rfl) ?_
      refine retK.fin rfl (by simp (maxSteps := 1000000) only [go_sem] <;> exact rfl) (by simp (maxSteps := 1000000) only [go_sem] <;> exact rfl) (.of ?_)
      simp [doDD, doLL, doEE, hc2, devV]
    · try simp only [decide_eq_true_eq, decide_eq_false_iff_not, Bool.or_eq_true, Bool.or_eq_false_iff, Bool.and_eq_true, Bool.and_eq_false_imp, Bool.not_eq_true', Bool.not_eq_false'] at hc2
      refine AW.regR rfl (by simp (maxSteps := 1000000) only [go_sem] <;> exact rfl) (by simp (disch := omega) only [go_sem, w64, wU] <;> exact rfl) ?_
      refine AW.cond (by simp (maxSteps := 1000000) only [go_sem] <;> exact rfl) (fun hc3 => ?_) (fun hc3 => ?_)
      · try simp only [decide_eq_true_eq, decide_eq_false_iff_not, Bool.or_eq_true, Bool.or_eq_false_iff, Bool.and_eq_true, Bool.and_eq_false_imp, Bool.not_eq_true', Bool.not_eq_false'] at hc3
        refine AW.regS rfl ?_
        refine ARN.run1 (by simp (maxSteps := 1000000) only [go_sem] <;> exact rfl) ?_
        refine ARN.pcall (fun hp => c41 D l e hs) rfl (by simp (maxSteps := 1000000) only [go_sem] <;> exact rfl) (by simp only [go_sem]) (by simp (maxSteps := 1000000) only [go_sem] <;> exact rfl) ?_
        refine ARN.run1 (by simp (maxSteps := 1000000) only [go_sem] <;> exact rfl) ?_
        refine ARN.fin (by simp (disch := omega) only [go_sem, w64, wU] <;> exact rfl) ?_
        refine retK.fin rfl (by simp (maxSteps := 1000000) only [go_sem] <;> exact rfl) (by simp (maxSteps := 1000000) only [go_sem] <;> exact rfl) (.of ?_)
        simp [doDD, doLL, doEE, hc3, devV]
      · try simp only [decide_eq_true_eq, decide_eq_false_iff_not, Bool.or_eq_true, Bool.or_eq_false_iff, Bool.and_eq_true, Bool.and_eq_false_imp, Bool.not_eq_true', Bool.not_eq_false'] at hc3
        refine AW.skip ?_
        show AW _ _ _ _ _
        refine AW.regR rfl (by simp (maxSteps := 1000000) only [go_sem] <;> exact rfl) (by simp (disch := omega) only [go_sem, w64, wU] <;> exact rfl) ?_
        refine retK.fin rfl (by simp (maxSteps := 1000000) only [go_sem] <;> exact rfl) (by simp (maxSteps := 1000000) only [go_sem] <;> exact rfl) (.of ?_)
        simp [doDD, doLL, doEE, hc1, hc2, hc3, devV]
theorem c32 (D : List Int) (l : List Pn) (e : Int) : PC Try.prog 32 [devV D l e] (.int .i64 (fewD D l)) := by
  refine PC.start 13 Try.call32 Try.func32 rfl Try.ntmps32 Try.results32 (by simp only [go_sem]; exact rfl) fun z hz => ?_
  refine AW.regR rfl (by simp (maxSteps := 1000000) only [go_sem, List.length_map] <;> exact rfl) (by simp (disch := omega) only [go_sem, w64, wU, List.length_map] <;> exact rfl) ?_
  refine AW.seq ?_
  refine AW.regR rfl (by simp (maxSteps := 1000000) only [go_sem, List.length_map] <;> exact rfl) (by simp (disch := omega) only [go_sem, w64, wU, List.length_map] <;> exact rfl) ?_
  refine AW.cond (by simp (maxSteps := 1000000) only [go_sem, List.length_map] <;> exact rfl) (fun hc1 => ?_) (fun hc1 => ?_)
  · try simp only [decide_eq_true_eq, decide_eq_false_iff_not, Bool.or_eq_true, Bool.or_eq_false_iff, Bool.and_eq_true, Bool.and_eq_false_imp, Bool.not_eq_true', Bool.not_eq_false'] at hc1
    refine AW.regR rfl (by simp (maxSteps := 1000000) only [go_sem, List.length_map] <;> exact rfl) (by simp (disch := omega) only [go_sem, w64, wU, List.length_map] <;> exact rfl) ?_
    refine retK.fin rfl (by simp (maxSteps := 1000000) only [go_sem, List.length_map] <;> exact rfl) (by simp (maxSteps := 1000000) only [go_sem, List.length_map] <;> exact rfl) (.of ?_)
    unfold fewD; rw [if_pos (by omega)]
  · try simp only [decide_eq_true_eq, decide_eq_false_iff_not, Bool.or_eq_true, Bool.or_eq_false_iff, Bool.and_eq_true, Bool.and_eq_false_imp, Bool.not_eq_true', Bool.not_eq_false'] at hc1
    refine AW.skip ?_
    show AW _ _ _ _ _
    refine AW.regR rfl (by simp (maxSteps := 1000000) only [go_sem, List.length_map] <;> exact rfl) (by simp (disch := omega) only [go_sem, w64, wU, List.length_map] <;> exact rfl) ?_
    refine retK.fin rfl (by simp (maxSteps := 1000000) only [go_sem, List.length_map] <;> exact rfl) (by simp (maxSteps := 1000000) only [go_sem, List.length_map] <;> exact rfl) (.of ?_)
    unfold fewD; rw [if_neg (by omega)]
theorem c33  : PC Try.prog 33 [] (.bool true) := by
  refine PC.start 108 Try.call33 Try.func33 rfl Try.ntmps33 Try.results33 (by simp only [go_sem]; exact rfl) fun z hz => ?_
  refine AW.regR rfl (by simp (maxSteps := 1000000) only [go_sem, List.length_map] <;> exact rfl) (by simp (disch := omega) only [go_sem, w64, wU, List.length_map] <;> exact rfl) ?_
  refine AW.regS rfl ?_
  refine ARN.run1 (by simp (maxSteps := 1000000) only [go_sem, List.length_map] <;> exact rfl) ?_
  refine ARN.pcall (fun hp => c44 [5, 6] true (by decide)) rfl (by simp (maxSteps := 1000000) only [go_sem, List.length_map] <;> exact rfl) (by simp only [go_sem]) (by simp (maxSteps := 1000000) only [go_sem, List.length_map] <;> exact rfl) ?_
  refine ARN.run1 (by simp (maxSteps := 1000000) only [go_sem, List.length_map] <;> exact rfl) ?_
  refine ARN.fin (by simp (disch := omega) only [go_sem, w64, wU, List.length_map] <;> exact rfl) ?_
  refine AW.regS rfl ?_
  refine ARN.run1 (by simp (maxSteps := 1000000) only [go_sem, List.length_map] <;> exact rfl) ?_
  refine ARN.pcall (fun hp => c36 [5, 6] [] 0 1 9 2 (by decide) ⟨by decide, by decide⟩) rfl (by simp (maxSteps := 1000000) only [go_sem, List.length_map] <;> exact rfl) (by simp only [go_sem]) (by simp (maxSteps := 1000000) only [go_sem, List.length_map] <;> exact rfl) ?_
  refine ARN.run1 (by simp (maxSteps := 1000000) only [go_sem, List.length_map] <;> exact rfl) ?_
  refine ARN.fin (by simp (disch := omega) only [go_sem, w64, wU, List.length_map] <;> exact rfl) ?_
  refine AW.regS rfl ?_
  refine ARN.run1 (by simp (maxSteps := 1000000) only [go_sem, List.length_map] <;> exact rfl) ?_
  refine ARN.pcall (fun hp => c36 [5, 6] (wrL [5, 6] [] 0 1 9 2) 0 2 9 2 (by decide) ⟨by decide, by decide⟩) rfl (by simp (maxSteps := 1000000) only [go_sem, List.length_map] <;> exact rfl) (by simp only [go_sem]) (by simp (maxSteps := 1000000) only [go_sem, List.length_map] <;> exact rfl) ?_
  refine ARN.run1 (by simp (maxSteps := 1000000) only [go_sem, List.length_map] <;> exact rfl) ?_
  refine ARN.fin (by simp (disch := omega) only [go_sem, w64, wU, List.length_map] <;> exact rfl) ?_
  refine AW.regS rfl ?_
  refine ARN.run1 (by simp (maxSteps := 1000000) only [go_sem, List.length_map] <;> exact rfl) ?_
  refine ARN.pcall (fun hp => c36 [5, 6] (wrL [5, 6] [] 0 1 9 2) 0 0 9 1 (by decide) ⟨by decide, by decide⟩) rfl (by simp (maxSteps := 1000000) only [go_sem, List.length_map] <;> exact rfl) (by simp only [go_sem]) (by simp (maxSteps := 1000000) only [go_sem, List.length_map] <;> exact rfl) ?_
  refine ARN.run1 (by simp (maxSteps := 1000000) only [go_sem, List.length_map] <;> exact rfl) ?_
  refine ARN.fin (by simp (disch := omega) only [go_sem, w64, wU, List.length_map] <;> exact rfl) ?_
  refine AW.regS rfl ?_
  refine ARN.run1 (by simp (maxSteps := 1000000) only [go_sem, List.length_map] <;> exact rfl) ?_
  refine ARN.pcall (fun hp => c39 [5, 6] (wrL [5, 6] [] 0 1 9 2) 0 ⟨by decide, by decide⟩) rfl (by simp (maxSteps := 1000000) only [go_sem, List.length_map] <;> exact rfl) (by simp only [go_sem]) (by simp (maxSteps := 1000000) only [go_sem, List.length_map] <;> exact rfl) ?_
  refine ARN.pcall (fun hp => c39 [5, 6] (wrL [5, 6] [] 0 1 9 2) (bumpE (wrL [5, 6] [] 0 1 9 2) 0) ⟨by decide, by decide⟩) rfl (by simp (maxSteps := 1000000) only [go_sem, List.length_map] <;> exact rfl) (by simp only [go_sem]) (by simp (maxSteps := 1000000) only [go_sem, List.length_map] <;> exact rfl) ?_
  refine ARN.run1 (by simp (maxSteps := 1000000) only [go_sem, List.length_map] <;> exact rfl) ?_
  refine ARN.fin (by simp (disch := omega) only [go_sem, w64, wU, List.length_map] <;> exact rfl) ?_
  refine AW.regS rfl ?_
  refine ARN.run1 (by simp (maxSteps := 1000000) only [go_sem, List.length_map] <;> exact rfl) ?_
  refine ARN.pcall (fun hp => rd [5, 6] (wrL [5, 6] [] 0 1 9 2) (bumpE (wrL [5, 6] [] 0 1 9 2) (bumpE (wrL [5, 6] [] 0 1 9 2) 0)) 1 (by decide) ⟨by decide, by decide⟩) rfl (by simp (maxSteps := 1000000) only [go_sem, List.length_map] <;> exact rfl) (by simp only [go_sem]) (by simp (maxSteps := 1000000) only [go_sem, List.length_map] <;> exact rfl) ?_
  refine ARN.run1 (by simp (maxSteps := 1000000) only [go_sem, List.length_map] <;> exact rfl) ?_
  refine ARN.fin (by simp (disch := omega) only [go_sem, w64, wU, List.length_map] <;> exact rfl) ?_
  refine AW.regS rfl ?_
  refine ARN.run1 (by simp (maxSteps := 1000000) only [go_sem, List.length_map] <;> exact rfl) ?_
  refine ARN.pcall (fun hp => c41 [5, 6] (wrL [5, 6] [] 0 1 9 2) (bumpE (wrL [5, 6] [] 0 1 9 2) (bumpE (wrL [5, 6] [] 0 1 9 2) 0)) ⟨by decide, by decide⟩) rfl (by simp (maxSteps := 1000000) only [go_sem, List.length_map] <;> exact rfl) (by simp only [go_sem]) (by simp (maxSteps := 1000000) only [go_sem, List.length_map] <;> exact rfl) ?_
  refine ARN.pcall (fun hp => rd (putsD [5, 6] (wrL [5, 6] [] 0 1 9 2)) [] 0 1 (by decide) ⟨by decide, by decide⟩) rfl (by simp (maxSteps := 1000000) only [go_sem, List.length_map] <;> exact rfl) (by simp only [go_sem]) (by simp (maxSteps := 1000000) only [go_sem, List.length_map] <;> exact rfl) ?_
  refine ARN.run1 (by simp (maxSteps := 1000000) only [go_sem, List.length_map] <;> exact rfl) ?_
  refine ARN.fin (by simp (disch := omega) only [go_sem, w64, wU, List.length_map] <;> exact rfl) ?_
  refine AW.regS rfl ?_
  refine ARN.run1 (by simp (maxSteps := 1000000) only [go_sem, List.length_map] <;> exact rfl) ?_
  refine ARN.pcall (fun hp => rd [5, 6] (wrL [5, 6] [] 0 1 9 2) (bumpE (wrL [5, 6] [] 0 1 9 2) (bumpE (wrL [5, 6] [] 0 1 9 2) 0)) 2 (by decide) ⟨by decide, by decide⟩) rfl (by simp (maxSteps := 1000000) only [go_sem, List.length_map] <;> exact rfl) (by simp only [go_sem]) (by simp (maxSteps := 1000000) only [go_sem, List.length_map] <;> exact rfl) ?_
  refine ARN.run1 (by simp (maxSteps := 1000000) only [go_sem, List.length_map] <;> exact rfl) ?_
  refine ARN.fin (by simp (disch := omega) only [go_sem, w64, wU, List.length_map] <;> exact rfl) ?_
  refine AW.regS rfl ?_
  refine ARN.run1 (by simp (maxSteps := 1000000) only [go_sem, List.length_map] <;> exact rfl) ?_
  refine ARN.pcall (fun hp => c41 [5, 6] (wrL [5, 6] [] 0 1 9 2) (bumpE (wrL [5, 6] [] 0 1 9 2) (bumpE (wrL [5, 6] [] 0 1 9 2) 0)) ⟨by decide, by decide⟩) rfl (by simp (maxSteps := 1000000) only [go_sem, List.length_map] <;> exact rfl) (by simp only [go_sem]) (by simp (maxSteps := 1000000) only [go_sem, List.length_map] <;> exact rfl) ?_
  refine ARN.run1 (by simp (maxSteps := 1000000) only [go_sem, List.length_map] <;> exact rfl) ?_
  refine ARN.pcall (fun hp => c43 [5, 6] [5, 6] [] (wrL [5, 6] [] 0 1 9 2) 0 0 ⟨by decide, by decide⟩ ⟨by decide, by decide⟩) rfl (by simp (maxSteps := 1000000) only [go_sem, List.length_map] <;> exact rfl) (by simp only [go_sem]) (by simp (maxSteps := 1000000) only [go_sem, List.length_map] <;> exact rfl) ?_
  refine ARN.run1 (by simp (maxSteps := 1000000) only [go_sem, List.length_map] <;> exact rfl) ?_
  refine ARN.pcall (fun hp => c43 [5, 6] [5, 6] [] [] 0 0 ⟨by decide, by decide⟩ ⟨by decide, by decide⟩) rfl (by simp (maxSteps := 1000000) only [go_sem, List.length_map] <;> exact rfl) (by simp only [go_sem]) (by simp (maxSteps := 1000000) only [go_sem, List.length_map] <;> exact rfl) ?_
  refine ARN.run1 (by simp (maxSteps := 1000000) only [go_sem, List.length_map] <;> exact rfl) ?_
  refine ARN.pcall (fun hp => c39 [5, 6] [] 0 ⟨by decide, by decide⟩) rfl (by simp (maxSteps := 1000000) only [go_sem, List.length_map] <;> exact rfl) (by simp only [go_sem]) (by simp (maxSteps := 1000000) only [go_sem, List.length_map] <;> exact rfl) ?_
  refine ARN.run1 (by simp (maxSteps := 1000000) only [go_sem, List.length_map] <;> exact rfl) ?_
  refine ARN.fin (by simp (disch := omega) only [go_sem, w64, wU, List.length_map] <;> exact rfl) ?_
  refine retK.fin rfl (by simp (maxSteps := 1000000) only [go_sem, List.length_map] <;> exact rfl) (by simp (maxSteps := 1000000) only [go_sem, List.length_map] <;> exact rfl) (.of ?_)
  exact congrArg PV.bool (by decide +kernel)
theorem c6 (D : List Int) (l : List Pn) (e b v w most : Int) (hb : 0 ≤ b) : PC Try.prog 6 [devV D l e, .agg [.int .u64 b, .int .u64 v, .int .u64 w], .int .i64 most] (.bool true) := by
  refine PC.start 118 Try.call6 Try.func6 rfl Try.ntmps6 Try.results6 (by simp only [go_sem]; exact rfl) fun z hz => ?_
  refine AW.regR rfl (by simp (maxSteps := 1000000) only [go_sem, List.length_map] <;> exact rfl) (by simp (disch := omega) only [go_sem, w64, wU, List.length_map] <;> exact rfl) ?_
  refine AW.seq ?_
  refine AW.regS rfl ?_
  refine ARN.run1 (by simp (maxSteps := 1000000) only [go_sem, List.length_map] <;> exact rfl) ?_
  refine ARN.pcall (fun hp => c32 D l e) rfl (by simp (maxSteps := 1000000) only [go_sem, List.length_map] <;> exact rfl) (by simp only [go_sem]) (by simp (maxSteps := 1000000) only [go_sem, List.length_map] <;> exact rfl) ?_
  refine ARN.run1 (by simp (maxSteps := 1000000) only [go_sem, List.length_map] <;> exact rfl) ?_
  refine ARN.fin (by simp (disch := omega) only [go_sem, w64, wU, List.length_map] <;> exact rfl) ?_
  refine AW.cond (by simp (maxSteps := 1000000) only [go_sem, List.length_map] <;> exact rfl) (fun hc1 => ?_) (fun hc1 => ?_)
  · try simp only [decide_eq_true_eq, decide_eq_false_iff_not, Bool.or_eq_true, Bool.or_eq_false_iff, Bool.and_eq_true, Bool.and_eq_false_imp, Bool.not_eq_true', Bool.not_eq_false'] at hc1
    refine AW.regS rfl ?_
    refine ARN.pcall (fun hp => c33) rfl (by simp (maxSteps := 1000000) only [go_sem, List.length_map] <;> exact rfl) (by simp only [go_sem]) (by simp (maxSteps := 1000000) only [go_sem, List.length_map] <;> exact rfl) ?_
    refine ARN.run1 (by simp (maxSteps := 1000000) only [go_sem, List.length_map] <;> exact rfl) ?_
    refine ARN.fin (by simp (disch := omega) only [go_sem, w64, wU, List.length_map] <;> exact rfl) ?_
    refine retK.fin rfl (by simp (maxSteps := 1000000) only [go_sem, List.length_map] <;> exact rfl) (by simp (maxSteps := 1000000) only [go_sem, List.length_map] <;> exact rfl) (.of ?_)
    rfl
  · try simp only [decide_eq_true_eq, decide_eq_false_iff_not, Bool.or_eq_true, Bool.or_eq_false_iff, Bool.and_eq_true, Bool.and_eq_false_imp, Bool.not_eq_true', Bool.not_eq_false'] at hc1
    refine AW.skip ?_
    show AW _ _ _ _ _
    have hf := few_1 hc1
    have hs : Sm D l := ⟨by omega, by omega⟩
    have hs2 : Sm D (wrL D l e b v most) := ⟨by omega, by have := wr_len D l e b v most; omega⟩
    have hs3 : Sm (putsD D l) [] := ⟨by rw [putsD_len]; omega, by decide⟩
    have hs4 : Sm D [] := ⟨by omega, by decide⟩
    refine AW.regDS follows (by kernel_rfl) ?_
    refine ARE.run1 (by simp (maxSteps := 1000000) only [go_sem, List.length_map] <;> exact rfl) ?_
    refine ARE.fin [0, 1, 0, 4, 3, 31] _ (by kernel_rfl) (by simp (maxSteps := 1000000) only [go_sem, List.length_map] <;> exact rfl) (by kernel_rfl) (by simp (disch := omega) only [go_sem, w64, wU, List.length_map] <;> exact rfl) ?_
    refine AW.regS rfl ?_
    refine ARN.run1 (by simp (maxSteps := 1000000) only [go_sem, List.length_map] <;> exact rfl) ?_
    refine ARN.pcall (fun hp => rd D l e b hb hs) rfl (by simp (maxSteps := 1000000) only [go_sem, List.length_map] <;> exact rfl) (by simp only [go_sem]) (by simp (maxSteps := 1000000) only [go_sem, List.length_map] <;> exact rfl) ?_
    refine ARN.run1 (by simp (maxSteps := 1000000) only [go_sem, List.length_map] <;> exact rfl) ?_
    refine ARN.fin (by simp (disch := omega) only [go_sem, w64, wU, List.length_map] <;> exact rfl) ?_
    refine AW.regS rfl ?_
    refine ARN.run1 (by simp (maxSteps := 1000000) only [go_sem, List.length_map] <;> exact rfl) ?_
    refine ARN.pcall (fun hp => rr D l e b hb hs) rfl (by simp (maxSteps := 1000000) only [go_sem, List.length_map] <;> exact rfl) (by simp only [go_sem]) (by simp (maxSteps := 1000000) only [go_sem, List.length_map] <;> exact rfl) ?_
    refine ARN.run1 (by simp (maxSteps := 1000000) only [go_sem, List.length_map] <;> exact rfl) ?_
    refine ARN.fin (by simp (disch := omega) only [go_sem, w64, wU, List.length_map] <;> exact rfl) ?_
    refine AW.regS rfl ?_
    refine ARN.run1 (by simp (maxSteps := 1000000) only [go_sem, List.length_map] <;> exact rfl) ?_
    refine ARN.pcall (fun hp => c36 D l e b v most hb hs) rfl (by simp (maxSteps := 1000000) only [go_sem, List.length_map] <;> exact rfl) (by simp only [go_sem]) (by simp (maxSteps := 1000000) only [go_sem, List.length_map] <;> exact rfl) ?_
    refine ARN.run1 (by simp (maxSteps := 1000000) only [go_sem, List.length_map] <;> exact rfl) ?_
    refine ARN.fin (by simp (disch := omega) only [go_sem, w64, wU, List.length_map] <;> exact rfl) ?_
    refine AW.regS rfl ?_
    refine ARN.run1 (by simp (maxSteps := 1000000) only [go_sem, List.length_map] <;> exact rfl) ?_
    refine ARN.pcall (fun hp => c37 D l e b v most hb hs) rfl (by simp (maxSteps := 1000000) only [go_sem, List.length_map] <;> exact rfl) (by simp only [go_sem]) (by simp (maxSteps := 1000000) only [go_sem, List.length_map] <;> exact rfl) ?_
    refine ARN.run1 (by simp (maxSteps := 1000000) only [go_sem, List.length_map] <;> exact rfl) ?_
    refine ARN.fin (by simp (disch := omega) only [go_sem, w64, wU, List.length_map] <;> exact rfl) ?_
    refine AW.seq ?_
    refine AW.regDS follows (by kernel_rfl) ?_
    refine ARE.run1 (by simp (maxSteps := 1000000) only [go_sem, List.length_map] <;> exact rfl) ?_
    refine ARE.pcall (fun hp => c38 D D (wrL D l e b v most) (wrL D l e b v most) e e hs2 hs2) rfl (by simp (maxSteps := 1000000) only [go_sem, List.length_map] <;> exact rfl) (by simp only [go_sem]) (by simp (maxSteps := 1000000) only [go_sem, List.length_map] <;> exact rfl) ?_
    refine ARE.run1 (by simp (maxSteps := 1000000) only [go_sem, List.length_map] <;> exact rfl) ?_
    refine ARE.pcall (fun hp => c39 D l e hs) rfl (by simp (maxSteps := 1000000) only [go_sem, List.length_map] <;> exact rfl) (by simp only [go_sem]) (by simp (maxSteps := 1000000) only [go_sem, List.length_map] <;> exact rfl) ?_
    refine ARE.run1 (by simp (maxSteps := 1000000) only [go_sem, List.length_map] <;> exact rfl) ?_
    refine ARE.pcall (fun hp => c40 D l e hs) rfl (by simp (maxSteps := 1000000) only [go_sem, List.length_map] <;> exact rfl) (by simp only [go_sem]) (by simp (maxSteps := 1000000) only [go_sem, List.length_map] <;> exact rfl) ?_
    refine ARE.pcall (fun hp => c38 D D l l (bumpE l e) (bumpE l e) hs hs) rfl (by simp (maxSteps := 1000000) only [go_sem, List.length_map] <;> exact rfl) (by simp only [go_sem]) (by simp (maxSteps := 1000000) only [go_sem, List.length_map] <;> exact rfl) ?_
    refine ARE.run1 (by simp (maxSteps := 1000000) only [go_sem, List.length_map] <;> exact rfl) ?_
    refine ARE.pcall (fun hp => c41 D l e hs) rfl (by simp (maxSteps := 1000000) only [go_sem, List.length_map] <;> exact rfl) (by simp only [go_sem]) (by simp (maxSteps := 1000000) only [go_sem, List.length_map] <;> exact rfl) ?_
    refine ARE.run1 (by simp (maxSteps := 1000000) only [go_sem, List.length_map] <;> exact rfl) ?_
    refine ARE.pcall (fun hp => c42 D l e hs) rfl (by simp (maxSteps := 1000000) only [go_sem, List.length_map] <;> exact rfl) (by simp only [go_sem]) (by simp (maxSteps := 1000000) only [go_sem, List.length_map] <;> exact rfl) ?_
    refine ARE.pcall (fun hp => c38 (putsD D l) (putsD D l) [] [] 0 0 hs3 hs3) rfl (by simp (maxSteps := 1000000) only [go_sem, List.length_map] <;> exact rfl) (by simp only [go_sem]) (by simp (maxSteps := 1000000) only [go_sem, List.length_map] <;> exact rfl) ?_
    refine ARE.run1 (by simp (maxSteps := 1000000) only [go_sem, List.length_map] <;> exact rfl) ?_
    refine ARE.fin [0, 0, 3, 7, 15, 15, 63, 127, 255, 511, 511, 2047, 4095, 8191, 16383, 16383, 65535, 131071, 262143, 524287, 1048575, 2097151, 1048575, 8388607, 16777215, 33554431, 67108863, 134217727, 268435455, 536870911, 268435455, 2147483647, 4294967295, 8589934591, 17179869183] _ (by kernel_rfl) (by simp (maxSteps := 1000000) only [go_sem, List.length_map] <;> exact rfl) (by kernel_rfl) (by simp (disch := omega) only [go_sem, w64, wU, List.length_map] <;> exact rfl) ?_
    refine AW.cond (by simp (maxSteps := 1000000) only [go_sem, List.length_map] <;> exact rfl) (fun hc2 => ?_) (fun hc2 => ?_)
    · try simp only [decide_eq_true_eq, decide_eq_false_iff_not, Bool.or_eq_true, Bool.or_eq_false_iff, Bool.and_eq_true, Bool.and_eq_false_imp, Bool.not_eq_true', Bool.not_eq_false'] at hc2
      refine AW.regR rfl (by simp (maxSteps := 1000000) only [go_sem, List.length_map] <;> exact rfl) (by simp (disch := omega) only [go_sem, w64, wU, List.length_map] <;> exact rfl) ?_
      refine retK.fin rfl (by simp (maxSteps := 1000000) only [go_sem, List.length_map] <;> exact rfl) (by simp (maxSteps := 1000000) only [go_sem, List.length_map] <;> exact rfl) (.of ?_)
      simp [sameD] at hc2
    · try simp only [decide_eq_true_eq, decide_eq_false_iff_not, Bool.or_eq_true, Bool.or_eq_false_iff, Bool.and_eq_true, Bool.and_eq_false_imp, Bool.not_eq_true', Bool.not_eq_false'] at hc2
      refine AW.skip ?_
      show AW _ _ _ _ _
      refine AW.regDS follows (by kernel_rfl) ?_
      refine ARE.run1 (by simp (maxSteps := 1000000) only [go_sem, List.length_map] <;> exact rfl) ?_
      refine ARE.pcall (fun hp => c43 D D l (wrL D l e b v most) e e hs hs2) rfl (by simp (maxSteps := 1000000) only [go_sem, List.length_map] <;> exact rfl) (by simp only [go_sem]) (by simp (maxSteps := 1000000) only [go_sem, List.length_map] <;> exact rfl) ?_
      refine ARE.run1 (by simp (maxSteps := 1000000) only [go_sem, List.length_map] <;> exact rfl) ?_
      refine ARE.pcall (fun hp => c38 D D l (wrL D l e b v most) e e hs hs2) rfl (by simp (maxSteps := 1000000) only [go_sem, List.length_map] <;> exact rfl) (by simp only [go_sem]) (by simp (maxSteps := 1000000) only [go_sem, List.length_map] <;> exact rfl) ?_
      refine ARE.run1 (by simp (maxSteps := 1000000) only [go_sem, List.length_map] <;> exact rfl) ?_
      refine ARE.pcall (fun hp => c41 D l e hs) rfl (by simp (maxSteps := 1000000) only [go_sem, List.length_map] <;> exact rfl) (by simp only [go_sem]) (by simp (maxSteps := 1000000) only [go_sem, List.length_map] <;> exact rfl) ?_
      refine ARE.pcall (fun hp => c43 D (putsD D l) l [] e 0 hs hs3) rfl (by simp (maxSteps := 1000000) only [go_sem, List.length_map] <;> exact rfl) (by simp only [go_sem]) (by simp (maxSteps := 1000000) only [go_sem, List.length_map] <;> exact rfl) ?_
      refine ARE.run1 (by simp (maxSteps := 1000000) only [go_sem, List.length_map] <;> exact rfl) ?_
      refine ARE.pcall (fun hp => c42 D l e hs) rfl (by simp (maxSteps := 1000000) only [go_sem, List.length_map] <;> exact rfl) (by simp only [go_sem]) (by simp (maxSteps := 1000000) only [go_sem, List.length_map] <;> exact rfl) ?_
      refine ARE.pcall (fun hp => c38 D (putsD D l) l [] e 0 hs hs3) rfl (by simp (maxSteps := 1000000) only [go_sem, List.length_map] <;> exact rfl) (by simp only [go_sem]) (by simp (maxSteps := 1000000) only [go_sem, List.length_map] <;> exact rfl) ?_
      refine ARE.run1 (by simp (maxSteps := 1000000) only [go_sem, List.length_map] <;> exact rfl) ?_
      refine ARE.pcall (fun hp => c44 D false (by omega)) rfl (by simp (maxSteps := 1000000) only [go_sem, List.length_map] <;> exact rfl) (by simp only [go_sem]) (by simp (maxSteps := 1000000) only [go_sem, List.length_map] <;> exact rfl) ?_
      refine ARE.run1 (by simp (maxSteps := 1000000) only [go_sem, List.length_map] <;> exact rfl) ?_
      refine ARE.pcall (fun hp => c45 D false (by omega)) rfl (by simp (maxSteps := 1000000) only [go_sem, List.length_map] <;> exact rfl) (by simp only [go_sem]) (by simp (maxSteps := 1000000) only [go_sem, List.length_map] <;> exact rfl) ?_
      refine ARE.pcall (fun hp => c38 D D [] [] 0 0 hs4 hs4) rfl (by simp (maxSteps := 1000000) only [go_sem, List.length_map] <;> exact rfl) (by simp only [go_sem]) (by simp (maxSteps := 1000000) only [go_sem, List.length_map] <;> exact rfl) ?_
      refine ARE.run1 (by simp (maxSteps := 1000000) only [go_sem, List.length_map] <;> exact rfl) ?_
      refine ARE.pcall (fun hp => c33) rfl (by simp (maxSteps := 1000000) only [go_sem, List.length_map] <;> exact rfl) (by simp only [go_sem]) (by simp (maxSteps := 1000000) only [go_sem, List.length_map] <;> exact rfl) ?_
      refine ARE.run1 (by simp (maxSteps := 1000000) only [go_sem, List.length_map] <;> exact rfl) ?_
      refine ARE.fin [0, 0, 3, 0, 0, 31, 63, 127, 255, 255, 767, 2047, 255, 255, 12287, 32767, 65535, 131071, 262143, 524287, 1048575, 2097151, 524287, 4718591, 16777215, 33554431, 67108863, 134217727, 268435455, 536870911, 1073741823] _ (by kernel_rfl) (by simp (maxSteps := 1000000) only [go_sem, List.length_map] <;> exact rfl) (by kernel_rfl) (by simp (disch := omega) only [go_sem, w64, wU, List.length_map] <;> exact rfl) ?_
      refine retK.fin rfl (by simp (maxSteps := 1000000) only [go_sem, List.length_map] <;> exact rfl) (by simp (maxSteps := 1000000) only [go_sem, List.length_map] <;> exact rfl) (.of ?_)
      simp [sameD]
end Go.Ab.Try
