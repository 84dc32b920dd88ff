/- The functions of the words' layer, the operators. -/
import Derived.Test.YtlgfbiepbneihaaWordF
namespace Go.Ab.Try
open Go.Proofs Go.Ab
set_option linter.unusedVariables false
set_option linter.unusedSimpArgs false
set_option linter.unnecessarySimpa false
set_option maxRecDepth 100000
theorem c57 (op w a b : Int) : PC Try.prog 57 [.int .i64 op, .int .i64 w, .int .u64 a, .int .u64 b] (.tup [.int .u64 (binW op w a b), .int .i64 (binE op w)]) := by
  refine PC.start 104 Try.call57 Try.func57 rfl Try.ntmps57 Try.results57 (by simp only [go_sem]; exact rfl) fun z hz => ?_
  refine AW.regR rfl (by simp (maxSteps := 1000000) only [go_sem] <;> exact rfl) (by first | (simp (disch := omega) only [go_sem, w64, wU] <;> exact rfl) | exact rfl) ?_
  refine AW.seq ?_
  refine AW.regR rfl (by simp (maxSteps := 1000000) only [go_sem] <;> exact rfl) (by first | (simp (disch := omega) only [go_sem, w64, wU] <;> exact rfl) | exact rfl) ?_
  refine AW.cond (by simp (maxSteps := 1000000) only [go_sem] <;> exact rfl) (fun hc1 => ?_) (fun hc1 => ?_)
  · try simp only [decide_eq_true_eq, decide_eq_false_iff_not, Bool.or_eq_true, Bool.or_eq_false_iff, Bool.and_eq_true, Bool.and_eq_false_imp, Bool.not_eq_true', Bool.not_eq_false'] at hc1
    refine AW.regR rfl (by simp (maxSteps := 1000000) only [go_sem] <;> exact rfl) (by first | (simp (disch := omega) only [go_sem, w64, wU] <;> exact rfl) | exact rfl) ?_
    refine retK.fin rfl (by simp (maxSteps := 1000000) only [go_sem] <;> exact rfl) (by simp (maxSteps := 1000000) only [go_sem] <;> exact rfl) (.of ?_)
    exact bin_bad (by omega)
  · try simp only [decide_eq_true_eq, decide_eq_false_iff_not, Bool.or_eq_true, Bool.or_eq_false_iff, Bool.and_eq_true, Bool.and_eq_false_imp, Bool.not_eq_true', Bool.not_eq_false'] at hc1
    refine AW.skip ?_
    show AW _ _ _ _ _
    refine AW.seq ?_
    refine AW.regS rfl ?_
    refine ARN.run1 (by simp (maxSteps := 1000000) only [go_sem] <;> exact rfl) ?_
    refine ARN.pcall (fun hp => c79 _) rfl (by simp (maxSteps := 1000000) only [go_sem] <;> exact rfl) (by simp only [go_sem]) (by simp (maxSteps := 1000000) only [go_sem] <;> exact rfl) ?_
    refine ARN.run1 (by simp (maxSteps := 1000000) only [go_sem] <;> exact rfl) ?_
    refine ARN.fin (by first | (simp (disch := omega) only [go_sem, w64, wU] <;> exact rfl) | exact rfl) ?_
    refine AW.cond (by simp (maxSteps := 1000000) only [go_sem] <;> exact rfl) (fun hc2 => ?_) (fun hc2 => ?_)
    · try simp only [decide_eq_true_eq, decide_eq_false_iff_not, Bool.or_eq_true, Bool.or_eq_false_iff, Bool.and_eq_true, Bool.and_eq_false_imp, Bool.not_eq_true', Bool.not_eq_false'] at hc2
      refine AW.regR rfl (by simp (maxSteps := 1000000) only [go_sem] <;> exact rfl) (by first | (simp (disch := omega) only [go_sem, w64, wU] <;> exact rfl) | exact rfl) ?_
      refine retK.fin rfl (by simp (maxSteps := 1000000) only [go_sem] <;> exact rfl) (by simp (maxSteps := 1000000) only [go_sem] <;> exact rfl) (.of ?_)
      exact bin_unfit (by omega) hc2
    · try simp only [decide_eq_true_eq, decide_eq_false_iff_not, Bool.or_eq_true, Bool.or_eq_false_iff, Bool.and_eq_true, Bool.and_eq_false_imp, Bool.not_eq_true', Bool.not_eq_false'] at hc2
      refine AW.skip ?_
      show AW _ _ _ _ _
      have hf : fitW w := by simpa using hc2
      have hop : 1 ≤ op ∧ op ≤ 14 := by omega
      have hA := mod_rng (w := w) a; have hB := mod_rng (w := w) b; have hm : maskW w = p2 w - 1 := by (unfold maskW; rw [if_pos hf])
      have hca : cutW w a = a % p2 w := cut_eq hf
      have hcb : cutW w b = b % p2 w := cut_eq hf
      refine AW.regS rfl ?_
      refine ARN.run1 (by simp (maxSteps := 1000000) only [go_sem, hca, hcb] <;> exact rfl) ?_
      refine ARN.pcall (fun hp => c80 _ _) rfl (by simp (maxSteps := 1000000) only [go_sem, hca, hcb] <;> exact rfl) (by simp only [go_sem]) (by simp (maxSteps := 1000000) only [go_sem, hca, hcb] <;> exact rfl) ?_
      refine ARN.run1 (by simp (maxSteps := 1000000) only [go_sem, hca, hcb] <;> exact rfl) ?_
      refine ARN.fin (by first | (simp (disch := omega) only [go_sem, w64, wU, hca, hcb] <;> exact rfl) | exact rfl) ?_
      refine AW.regS rfl ?_
      refine ARN.run1 (by simp (maxSteps := 1000000) only [go_sem, hca, hcb] <;> exact rfl) ?_
      refine ARN.pcall (fun hp => c80 _ _) rfl (by simp (maxSteps := 1000000) only [go_sem, hca, hcb] <;> exact rfl) (by simp only [go_sem]) (by simp (maxSteps := 1000000) only [go_sem, hca, hcb] <;> exact rfl) ?_
      refine ARN.run1 (by simp (maxSteps := 1000000) only [go_sem, hca, hcb] <;> exact rfl) ?_
      refine ARN.fin (by first | (simp (disch := omega) only [go_sem, w64, wU, hca, hcb] <;> exact rfl) | exact rfl) ?_
      refine AW.regR rfl (by simp (maxSteps := 1000000) only [go_sem, hca, hcb] <;> exact rfl) (by first | (simp (disch := omega) only [go_sem, w64, wU, hca, hcb] <;> exact rfl) | exact rfl) ?_
      refine AW.seq ?_
      refine AW.regR rfl (by simp (maxSteps := 1000000) only [go_sem, hca, hcb] <;> exact rfl) (by first | (simp (disch := omega) only [go_sem, w64, wU, hca, hcb] <;> exact rfl) | exact rfl) ?_
      refine AW.block ?_
      refine AW.regR rfl (by simp (maxSteps := 1000000) only [go_sem, hca, hcb] <;> exact rfl) (by first | (simp (disch := omega) only [go_sem, w64, wU, hca, hcb] <;> exact rfl) | exact rfl) ?_
      refine AW.cond (by simp (maxSteps := 1000000) only [go_sem, hca, hcb] <;> exact rfl) (fun hc3 => ?_) (fun hc3 => ?_)
      · try simp only [decide_eq_true_eq, decide_eq_false_iff_not, Bool.or_eq_true, Bool.or_eq_false_iff, Bool.and_eq_true, Bool.and_eq_false_imp, Bool.not_eq_true', Bool.not_eq_false'] at hc3
        refine AW.regR1 rfl (by simp (maxSteps := 1000000) only [go_sem, hca, hcb] <;> exact rfl) (by first | (simp (disch := omega) only [go_sem, w64, wU, hca, hcb] <;> exact rfl) | exact rfl) ?_
        show AW _ _ _ _ _
        refine AW.regS rfl ?_
        refine ARN.run1 (by simp (maxSteps := 1000000) only [go_sem, hca, hcb] <;> exact rfl) ?_
        refine ARN.pcall (fun hp => c80 _ _) rfl (by simp (maxSteps := 1000000) only [go_sem, hca, hcb] <;> exact rfl) (by simp only [go_sem]) (by simp (maxSteps := 1000000) only [go_sem, hca, hcb] <;> exact rfl) ?_
        refine ARN.run1 (by simp (maxSteps := 1000000) only [go_sem, hca, hcb] <;> exact rfl) ?_
        refine ARN.fin (by first | (simp (disch := omega) only [go_sem, w64, wU, hca, hcb] <;> exact rfl) | exact rfl) ?_
        refine retK.fin rfl (by simp (maxSteps := 1000000) only [go_sem, hca, hcb] <;> exact rfl) (by simp (maxSteps := 1000000) only [go_sem, hca, hcb] <;> exact rfl) (.of ?_)
        obtain rfl : op = 1 := hc3
        exact bin_leaf hf (by decide) (by decide) (by rw [cut_wrap hf, raw1])
      · try simp only [decide_eq_true_eq, decide_eq_false_iff_not, Bool.or_eq_true, Bool.or_eq_false_iff, Bool.and_eq_true, Bool.and_eq_false_imp, Bool.not_eq_true', Bool.not_eq_false'] at hc3
        refine AW.regR rfl (by simp (maxSteps := 1000000) only [go_sem, hca, hcb] <;> exact rfl) (by first | (simp (disch := omega) only [go_sem, w64, wU, hca, hcb] <;> exact rfl) | exact rfl) ?_
        refine AW.cond (by simp (maxSteps := 1000000) only [go_sem, hca, hcb] <;> exact rfl) (fun hc4 => ?_) (fun hc4 => ?_)
        · try simp only [decide_eq_true_eq, decide_eq_false_iff_not, Bool.or_eq_true, Bool.or_eq_false_iff, Bool.and_eq_true, Bool.and_eq_false_imp, Bool.not_eq_true', Bool.not_eq_false'] at hc4
          refine AW.regR1 rfl (by simp (maxSteps := 1000000) only [go_sem, hca, hcb] <;> exact rfl) (by first | (simp (disch := omega) only [go_sem, w64, wU, hca, hcb] <;> exact rfl) | exact rfl) ?_
          show AW _ _ _ _ _
          refine AW.regS rfl ?_
          refine ARN.run1 (by simp (maxSteps := 1000000) only [go_sem, hca, hcb] <;> exact rfl) ?_
          refine ARN.pcall (fun hp => c80 _ _) rfl (by simp (maxSteps := 1000000) only [go_sem, hca, hcb] <;> exact rfl) (by simp only [go_sem]) (by simp (maxSteps := 1000000) only [go_sem, hca, hcb] <;> exact rfl) ?_
          refine ARN.run1 (by simp (maxSteps := 1000000) only [go_sem, hca, hcb] <;> exact rfl) ?_
          refine ARN.fin (by first | (simp (disch := omega) only [go_sem, w64, wU, hca, hcb] <;> exact rfl) | exact rfl) ?_
          refine retK.fin rfl (by simp (maxSteps := 1000000) only [go_sem, hca, hcb] <;> exact rfl) (by simp (maxSteps := 1000000) only [go_sem, hca, hcb] <;> exact rfl) (.of ?_)
          obtain rfl : op = 2 := hc4
          exact bin_leaf hf (by decide) (by decide) (by rw [cut_wrap hf, raw2])
        · try simp only [decide_eq_true_eq, decide_eq_false_iff_not, Bool.or_eq_true, Bool.or_eq_false_iff, Bool.and_eq_true, Bool.and_eq_false_imp, Bool.not_eq_true', Bool.not_eq_false'] at hc4
          refine AW.regR rfl (by simp (maxSteps := 1000000) only [go_sem, hca, hcb] <;> exact rfl) (by first | (simp (disch := omega) only [go_sem, w64, wU, hca, hcb] <;> exact rfl) | exact rfl) ?_
          refine AW.cond (by simp (maxSteps := 1000000) only [go_sem, hca, hcb] <;> exact rfl) (fun hc5 => ?_) (fun hc5 => ?_)
          · try simp only [decide_eq_true_eq, decide_eq_false_iff_not, Bool.or_eq_true, Bool.or_eq_false_iff, Bool.and_eq_true, Bool.and_eq_false_imp, Bool.not_eq_true', Bool.not_eq_false'] at hc5
            refine AW.regR1 rfl (by simp (maxSteps := 1000000) only [go_sem, hca, hcb] <;> exact rfl) (by first | (simp (disch := omega) only [go_sem, w64, wU, hca, hcb] <;> exact rfl) | exact rfl) ?_
            show AW _ _ _ _ _
            refine AW.regS rfl ?_
            refine ARN.run1 (by simp (maxSteps := 1000000) only [go_sem, hca, hcb] <;> exact rfl) ?_
            refine ARN.pcall (fun hp => c80 _ _) rfl (by simp (maxSteps := 1000000) only [go_sem, hca, hcb] <;> exact rfl) (by simp only [go_sem]) (by simp (maxSteps := 1000000) only [go_sem, hca, hcb] <;> exact rfl) ?_
            refine ARN.run1 (by simp (maxSteps := 1000000) only [go_sem, hca, hcb] <;> exact rfl) ?_
            refine ARN.fin (by first | (simp (disch := omega) only [go_sem, w64, wU, hca, hcb] <;> exact rfl) | exact rfl) ?_
            refine retK.fin rfl (by simp (maxSteps := 1000000) only [go_sem, hca, hcb] <;> exact rfl) (by simp (maxSteps := 1000000) only [go_sem, hca, hcb] <;> exact rfl) (.of ?_)
            obtain rfl : op = 3 := hc5
            exact bin_leaf hf (by decide) (by decide) (by rw [cut_wrap hf, raw3])
          · try simp only [decide_eq_true_eq, decide_eq_false_iff_not, Bool.or_eq_true, Bool.or_eq_false_iff, Bool.and_eq_true, Bool.and_eq_false_imp, Bool.not_eq_true', Bool.not_eq_false'] at hc5
            refine AW.regR rfl (by simp (maxSteps := 1000000) only [go_sem, hca, hcb] <;> exact rfl) (by first | (simp (disch := omega) only [go_sem, w64, wU, hca, hcb] <;> exact rfl) | exact rfl) ?_
            refine AW.cond (by simp (maxSteps := 1000000) only [go_sem, hca, hcb] <;> exact rfl) (fun hc6 => ?_) (fun hc6 => ?_)
            · try simp only [decide_eq_true_eq, decide_eq_false_iff_not, Bool.or_eq_true, Bool.or_eq_false_iff, Bool.and_eq_true, Bool.and_eq_false_imp, Bool.not_eq_true', Bool.not_eq_false'] at hc6
              refine AW.regS rfl ?_
              refine ARN.run1 (by simp (maxSteps := 1000000) only [go_sem, hca, hcb] <;> exact rfl) ?_
              refine ARN.pcall (fun hp => c81 _) rfl (by simp (maxSteps := 1000000) only [go_sem, hca, hcb] <;> exact rfl) (by simp only [go_sem]) (by simp (maxSteps := 1000000) only [go_sem, hca, hcb] <;> exact rfl) ?_
              refine ARN.run1 (by simp (maxSteps := 1000000) only [go_sem, hca, hcb] <;> exact rfl) ?_
              refine ARN.fin (by first | (simp (disch := omega) only [go_sem, w64, wU, hca, hcb] <;> exact rfl) | exact rfl) ?_
              refine AW.regR rfl (by simp (maxSteps := 1000000) only [go_sem, hca, hcb] <;> exact rfl) (by first | (simp (disch := omega) only [go_sem, w64, wU, hca, hcb] <;> exact rfl) | exact rfl) ?_
              refine AW.cond (by simp (maxSteps := 1000000) only [go_sem, hca, hcb] <;> exact rfl) (fun hc7 => ?_) (fun hc7 => ?_)
              · try simp only [decide_eq_true_eq, decide_eq_false_iff_not, Bool.or_eq_true, Bool.or_eq_false_iff, Bool.and_eq_true, Bool.and_eq_false_imp, Bool.not_eq_true', Bool.not_eq_false'] at hc7
                have hb0 : ¬ (b % p2 w = 0) := hc7
                refine AW.regR1 rfl (by simp (maxSteps := 1000000) only [go_sem, hca, hcb, hb0] <;> exact rfl) (by first | (simp (disch := omega) only [go_sem, w64, wU, hca, hcb, hb0] <;> exact rfl) | exact rfl) ?_
                show AW _ _ _ _ _
                refine AW.regS rfl ?_
                refine ARN.run1 (by simp (maxSteps := 1000000) only [go_sem, hca, hcb, hb0] <;> exact rfl) ?_
                refine ARN.pcall (fun hp => c80 _ _) rfl (by simp (maxSteps := 1000000) only [go_sem, hca, hcb, hb0] <;> exact rfl) (by simp only [go_sem]) (by simp (maxSteps := 1000000) only [go_sem, hca, hcb, hb0] <;> exact rfl) ?_
                refine ARN.run1 (by simp (maxSteps := 1000000) only [go_sem, hca, hcb, hb0] <;> exact rfl) ?_
                refine ARN.fin (by first | (simp (disch := omega) only [go_sem, w64, wU, hca, hcb, hb0] <;> exact rfl) | exact rfl) ?_
                refine retK.fin rfl (by simp (maxSteps := 1000000) only [go_sem, hca, hcb, hb0] <;> exact rfl) (by simp (maxSteps := 1000000) only [go_sem, hca, hcb, hb0] <;> exact rfl) (.of ?_)
                obtain rfl : op = 4 := hc6
                exact bin_leaf hf (by decide) (by decide) (by rw [raw4, if_neg hb0, cut_wrap hf, tdivN hA.1])
              · try simp only [decide_eq_true_eq, decide_eq_false_iff_not, Bool.or_eq_true, Bool.or_eq_false_iff, Bool.and_eq_true, Bool.and_eq_false_imp, Bool.not_eq_true', Bool.not_eq_false'] at hc7
                refine AW.skip ?_
                show AW _ _ _ _ _
                refine AW.regS rfl ?_
                refine ARN.run1 (by simp (maxSteps := 1000000) only [go_sem, hca, hcb] <;> exact rfl) ?_
                refine ARN.pcall (fun hp => c80 _ _) rfl (by simp (maxSteps := 1000000) only [go_sem, hca, hcb] <;> exact rfl) (by simp only [go_sem]) (by simp (maxSteps := 1000000) only [go_sem, hca, hcb] <;> exact rfl) ?_
                refine ARN.run1 (by simp (maxSteps := 1000000) only [go_sem, hca, hcb] <;> exact rfl) ?_
                refine ARN.fin (by first | (simp (disch := omega) only [go_sem, w64, wU, hca, hcb] <;> exact rfl) | exact rfl) ?_
                refine retK.fin rfl (by simp (maxSteps := 1000000) only [go_sem, hca, hcb] <;> exact rfl) (by simp (maxSteps := 1000000) only [go_sem, hca, hcb] <;> exact rfl) (.of ?_)
                obtain rfl : op = 4 := hc6
                exact bin_leaf hf (by decide) (by decide) (by rw [raw4, if_pos (hc7), cut_eq hf, hm])
            · try simp only [decide_eq_true_eq, decide_eq_false_iff_not, Bool.or_eq_true, Bool.or_eq_false_iff, Bool.and_eq_true, Bool.and_eq_false_imp, Bool.not_eq_true', Bool.not_eq_false'] at hc6
              refine AW.regR rfl (by simp (maxSteps := 1000000) only [go_sem, hca, hcb] <;> exact rfl) (by first | (simp (disch := omega) only [go_sem, w64, wU, hca, hcb] <;> exact rfl) | exact rfl) ?_
              refine AW.cond (by simp (maxSteps := 1000000) only [go_sem, hca, hcb] <;> exact rfl) (fun hc8 => ?_) (fun hc8 => ?_)
              · try simp only [decide_eq_true_eq, decide_eq_false_iff_not, Bool.or_eq_true, Bool.or_eq_false_iff, Bool.and_eq_true, Bool.and_eq_false_imp, Bool.not_eq_true', Bool.not_eq_false'] at hc8
                refine AW.regR rfl (by simp (maxSteps := 1000000) only [go_sem, hca, hcb] <;> exact rfl) (by first | (simp (disch := omega) only [go_sem, w64, wU, hca, hcb] <;> exact rfl) | exact rfl) ?_
                refine AW.regR rfl (by simp (maxSteps := 1000000) only [go_sem, hca, hcb] <;> exact rfl) (by first | (simp (disch := omega) only [go_sem, w64, wU, hca, hcb] <;> exact rfl) | exact rfl) ?_
                refine AW.cond (by simp (maxSteps := 1000000) only [go_sem, hca, hcb] <;> exact rfl) (fun hc9 => ?_) (fun hc9 => ?_)
                · try simp only [decide_eq_true_eq, decide_eq_false_iff_not, Bool.or_eq_true, Bool.or_eq_false_iff, Bool.and_eq_true, Bool.and_eq_false_imp, Bool.not_eq_true', Bool.not_eq_false'] at hc9
                  have hb0 : ¬ (b % p2 w = 0) := hc9
                  refine AW.regR1 rfl (by simp (maxSteps := 1000000) only [go_sem, hca, hcb, hb0] <;> exact rfl) (by first | (simp (disch := omega) only [go_sem, w64, wU, hca, hcb, hb0] <;> exact rfl) | exact rfl) ?_
                  show AW _ _ _ _ _
                  refine AW.regS rfl ?_
                  refine ARN.run1 (by simp (maxSteps := 1000000) only [go_sem, hca, hcb, hb0] <;> exact rfl) ?_
                  refine ARN.pcall (fun hp => c80 _ _) rfl (by simp (maxSteps := 1000000) only [go_sem, hca, hcb, hb0] <;> exact rfl) (by simp only [go_sem]) (by simp (maxSteps := 1000000) only [go_sem, hca, hcb, hb0] <;> exact rfl) ?_
                  refine ARN.run1 (by simp (maxSteps := 1000000) only [go_sem, hca, hcb, hb0] <;> exact rfl) ?_
                  refine ARN.fin (by first | (simp (disch := omega) only [go_sem, w64, wU, hca, hcb, hb0] <;> exact rfl) | exact rfl) ?_
                  refine retK.fin rfl (by simp (maxSteps := 1000000) only [go_sem, hca, hcb, hb0] <;> exact rfl) (by simp (maxSteps := 1000000) only [go_sem, hca, hcb, hb0] <;> exact rfl) (.of ?_)
                  obtain rfl : op = 5 := hc8
                  exact bin_leaf hf (by decide) (by decide) (by rw [raw5, if_neg hb0, cut_eq hf, tmodN hA.1])
                · try simp only [decide_eq_true_eq, decide_eq_false_iff_not, Bool.or_eq_true, Bool.or_eq_false_iff, Bool.and_eq_true, Bool.and_eq_false_imp, Bool.not_eq_true', Bool.not_eq_false'] at hc9
                  refine AW.skip ?_
                  show AW _ _ _ _ _
                  refine AW.regS rfl ?_
                  refine ARN.run1 (by simp (maxSteps := 1000000) only [go_sem, hca, hcb] <;> exact rfl) ?_
                  refine ARN.pcall (fun hp => c80 _ _) rfl (by simp (maxSteps := 1000000) only [go_sem, hca, hcb] <;> exact rfl) (by simp only [go_sem]) (by simp (maxSteps := 1000000) only [go_sem, hca, hcb] <;> exact rfl) ?_
                  refine ARN.run1 (by simp (maxSteps := 1000000) only [go_sem, hca, hcb] <;> exact rfl) ?_
                  refine ARN.fin (by first | (simp (disch := omega) only [go_sem, w64, wU, hca, hcb] <;> exact rfl) | exact rfl) ?_
                  refine retK.fin rfl (by simp (maxSteps := 1000000) only [go_sem, hca, hcb] <;> exact rfl) (by simp (maxSteps := 1000000) only [go_sem, hca, hcb] <;> exact rfl) (.of ?_)
                  obtain rfl : op = 5 := hc8
                  exact bin_leaf hf (by decide) (by decide) (by rw [raw5, if_pos (hc9), cut_eq hf])
              · try simp only [decide_eq_true_eq, decide_eq_false_iff_not, Bool.or_eq_true, Bool.or_eq_false_iff, Bool.and_eq_true, Bool.and_eq_false_imp, Bool.not_eq_true', Bool.not_eq_false'] at hc8
                refine AW.regR rfl (by simp (maxSteps := 1000000) only [go_sem, hca, hcb] <;> exact rfl) (by first | (simp (disch := omega) only [go_sem, w64, wU, hca, hcb] <;> exact rfl) | exact rfl) ?_
                refine AW.cond (by simp (maxSteps := 1000000) only [go_sem, hca, hcb] <;> exact rfl) (fun hc10 => ?_) (fun hc10 => ?_)
                · try simp only [decide_eq_true_eq, decide_eq_false_iff_not, Bool.or_eq_true, Bool.or_eq_false_iff, Bool.and_eq_true, Bool.and_eq_false_imp, Bool.not_eq_true', Bool.not_eq_false'] at hc10
                  refine AW.regR1 rfl (by simp (maxSteps := 1000000) only [go_sem, hca, hcb] <;> exact rfl) (by first | (simp (disch := omega) only [go_sem, w64, wU, hca, hcb] <;> exact rfl) | exact rfl) ?_
                  show AW _ _ _ _ _
                  refine AW.regS rfl ?_
                  refine ARN.run1 (by simp (maxSteps := 1000000) only [go_sem, hca, hcb] <;> exact rfl) ?_
                  refine ARN.pcall (fun hp => c80 _ _) rfl (by simp (maxSteps := 1000000) only [go_sem, hca, hcb] <;> exact rfl) (by simp only [go_sem]) (by simp (maxSteps := 1000000) only [go_sem, hca, hcb] <;> exact rfl) ?_
                  refine ARN.run1 (by simp (maxSteps := 1000000) only [go_sem, hca, hcb] <;> exact rfl) ?_
                  refine ARN.fin (by first | (simp (disch := omega) only [go_sem, w64, wU, hca, hcb] <;> exact rfl) | exact rfl) ?_
                  refine retK.fin rfl (by simp (maxSteps := 1000000) only [go_sem, hca, hcb] <;> exact rfl) (by simp (maxSteps := 1000000) only [go_sem, hca, hcb] <;> exact rfl) (.of ?_)
                  obtain rfl : op = 6 := hc10
                  exact bin_leaf hf (by decide) (by decide) (by rw [raw6, cut_eq hf])
                · try simp only [decide_eq_true_eq, decide_eq_false_iff_not, Bool.or_eq_true, Bool.or_eq_false_iff, Bool.and_eq_true, Bool.and_eq_false_imp, Bool.not_eq_true', Bool.not_eq_false'] at hc10
                  refine AW.regR rfl (by simp (maxSteps := 1000000) only [go_sem, hca, hcb] <;> exact rfl) (by first | (simp (disch := omega) only [go_sem, w64, wU, hca, hcb] <;> exact rfl) | exact rfl) ?_
                  refine AW.cond (by simp (maxSteps := 1000000) only [go_sem, hca, hcb] <;> exact rfl) (fun hc11 => ?_) (fun hc11 => ?_)
                  · try simp only [decide_eq_true_eq, decide_eq_false_iff_not, Bool.or_eq_true, Bool.or_eq_false_iff, Bool.and_eq_true, Bool.and_eq_false_imp, Bool.not_eq_true', Bool.not_eq_false'] at hc11
                    refine AW.regR1 rfl (by simp (maxSteps := 1000000) only [go_sem, hca, hcb] <;> exact rfl) (by first | (simp (disch := omega) only [go_sem, w64, wU, hca, hcb] <;> exact rfl) | exact rfl) ?_
                    show AW _ _ _ _ _
                    refine AW.regS rfl ?_
                    refine ARN.run1 (by simp (maxSteps := 1000000) only [go_sem, hca, hcb] <;> exact rfl) ?_
                    refine ARN.pcall (fun hp => c80 _ _) rfl (by simp (maxSteps := 1000000) only [go_sem, hca, hcb] <;> exact rfl) (by simp only [go_sem]) (by simp (maxSteps := 1000000) only [go_sem, hca, hcb] <;> exact rfl) ?_
                    refine ARN.run1 (by simp (maxSteps := 1000000) only [go_sem, hca, hcb] <;> exact rfl) ?_
                    refine ARN.fin (by first | (simp (disch := omega) only [go_sem, w64, wU, hca, hcb] <;> exact rfl) | exact rfl) ?_
                    refine retK.fin rfl (by simp (maxSteps := 1000000) only [go_sem, hca, hcb] <;> exact rfl) (by simp (maxSteps := 1000000) only [go_sem, hca, hcb] <;> exact rfl) (.of ?_)
                    obtain rfl : op = 7 := hc11
                    exact bin_leaf hf (by decide) (by decide) (by rw [raw7, cut_eq hf])
                  · try simp only [decide_eq_true_eq, decide_eq_false_iff_not, Bool.or_eq_true, Bool.or_eq_false_iff, Bool.and_eq_true, Bool.and_eq_false_imp, Bool.not_eq_true', Bool.not_eq_false'] at hc11
                    refine AW.regR rfl (by simp (maxSteps := 1000000) only [go_sem, hca, hcb] <;> exact rfl) (by first | (simp (disch := omega) only [go_sem, w64, wU, hca, hcb] <;> exact rfl) | exact rfl) ?_
                    refine AW.cond (by simp (maxSteps := 1000000) only [go_sem, hca, hcb] <;> exact rfl) (fun hc12 => ?_) (fun hc12 => ?_)
                    · try simp only [decide_eq_true_eq, decide_eq_false_iff_not, Bool.or_eq_true, Bool.or_eq_false_iff, Bool.and_eq_true, Bool.and_eq_false_imp, Bool.not_eq_true', Bool.not_eq_false'] at hc12
                      refine AW.regR1 rfl (by simp (maxSteps := 1000000) only [go_sem, hca, hcb] <;> exact rfl) (by first | (simp (disch := omega) only [go_sem, w64, wU, hca, hcb] <;> exact rfl) | exact rfl) ?_
                      show AW _ _ _ _ _
                      refine AW.regS rfl ?_
                      refine ARN.run1 (by simp (maxSteps := 1000000) only [go_sem, hca, hcb] <;> exact rfl) ?_
                      refine ARN.pcall (fun hp => c80 _ _) rfl (by simp (maxSteps := 1000000) only [go_sem, hca, hcb] <;> exact rfl) (by simp only [go_sem]) (by simp (maxSteps := 1000000) only [go_sem, hca, hcb] <;> exact rfl) ?_
                      refine ARN.run1 (by simp (maxSteps := 1000000) only [go_sem, hca, hcb] <;> exact rfl) ?_
                      refine ARN.fin (by first | (simp (disch := omega) only [go_sem, w64, wU, hca, hcb] <;> exact rfl) | exact rfl) ?_
                      refine retK.fin rfl (by simp (maxSteps := 1000000) only [go_sem, hca, hcb] <;> exact rfl) (by simp (maxSteps := 1000000) only [go_sem, hca, hcb] <;> exact rfl) (.of ?_)
                      obtain rfl : op = 8 := hc12
                      exact bin_leaf hf (by decide) (by decide) (by rw [raw8, cut_eq hf])
                    · try simp only [decide_eq_true_eq, decide_eq_false_iff_not, Bool.or_eq_true, Bool.or_eq_false_iff, Bool.and_eq_true, Bool.and_eq_false_imp, Bool.not_eq_true', Bool.not_eq_false'] at hc12
                      refine AW.regR rfl (by simp (maxSteps := 1000000) only [go_sem, hca, hcb] <;> exact rfl) (by first | (simp (disch := omega) only [go_sem, w64, wU, hca, hcb] <;> exact rfl) | exact rfl) ?_
                      refine AW.cond (by simp (maxSteps := 1000000) only [go_sem, hca, hcb] <;> exact rfl) (fun hc13 => ?_) (fun hc13 => ?_)
                      · try simp only [decide_eq_true_eq, decide_eq_false_iff_not, Bool.or_eq_true, Bool.or_eq_false_iff, Bool.and_eq_true, Bool.and_eq_false_imp, Bool.not_eq_true', Bool.not_eq_false'] at hc13
                        refine AW.reg rfl ?_
                        refine ARN.run1 (by simp (maxSteps := 1000000) only [go_sem, hca, hcb] <;> exact rfl) ?_
                        refine ARN.pcall (fun hp => c82 _) rfl (by simp (maxSteps := 1000000) only [go_sem, hca, hcb] <;> exact rfl) (by simp only [go_sem]) (by simp (maxSteps := 1000000) only [go_sem, hca, hcb] <;> exact rfl) ?_
                        refine ARN.run1 (by simp (maxSteps := 1000000) only [go_sem, hca, hcb] <;> exact rfl) ?_
                        refine ARN.fin1 (by first | (simp (disch := omega) only [go_sem, w64, wU, hca, hcb] <;> exact rfl) | exact rfl) ?_
                        show AW _ _ _ _ _
                        refine AW.regS rfl ?_
                        refine ARN.run1 (by simp (maxSteps := 1000000) only [go_sem, hca, hcb] <;> exact rfl) ?_
                        refine ARN.pcall (fun hp => c80 _ _) rfl (by simp (maxSteps := 1000000) only [go_sem, hca, hcb] <;> exact rfl) (by simp only [go_sem]) (by simp (maxSteps := 1000000) only [go_sem, hca, hcb] <;> exact rfl) ?_
                        refine ARN.run1 (by simp (maxSteps := 1000000) only [go_sem, hca, hcb] <;> exact rfl) ?_
                        refine ARN.fin (by first | (simp (disch := omega) only [go_sem, w64, wU, hca, hcb] <;> exact rfl) | exact rfl) ?_
                        refine retK.fin rfl (by simp (maxSteps := 1000000) only [go_sem, hca, hcb] <;> exact rfl) (by simp (maxSteps := 1000000) only [go_sem, hca, hcb] <;> exact rfl) (.of ?_)
                        obtain rfl : op = 12 := hc13
                        exact bin_leaf hf (by decide) (by decide) (by rw [raw12, cut_eq hf]; simp)
                      · try simp only [decide_eq_true_eq, decide_eq_false_iff_not, Bool.or_eq_true, Bool.or_eq_false_iff, Bool.and_eq_true, Bool.and_eq_false_imp, Bool.not_eq_true', Bool.not_eq_false'] at hc13
                        refine AW.regR rfl (by simp (maxSteps := 1000000) only [go_sem, hca, hcb] <;> exact rfl) (by first | (simp (disch := omega) only [go_sem, w64, wU, hca, hcb] <;> exact rfl) | exact rfl) ?_
                        refine AW.cond (by simp (maxSteps := 1000000) only [go_sem, hca, hcb] <;> exact rfl) (fun hc14 => ?_) (fun hc14 => ?_)
                        · try simp only [decide_eq_true_eq, decide_eq_false_iff_not, Bool.or_eq_true, Bool.or_eq_false_iff, Bool.and_eq_true, Bool.and_eq_false_imp, Bool.not_eq_true', Bool.not_eq_false'] at hc14
                          refine AW.reg rfl ?_
                          refine ARN.run1 (by simp (maxSteps := 1000000) only [go_sem, hca, hcb] <;> exact rfl) ?_
                          refine ARN.pcall (fun hp => c82 _) rfl (by simp (maxSteps := 1000000) only [go_sem, hca, hcb] <;> exact rfl) (by simp only [go_sem]) (by simp (maxSteps := 1000000) only [go_sem, hca, hcb] <;> exact rfl) ?_
                          refine ARN.run1 (by simp (maxSteps := 1000000) only [go_sem, hca, hcb] <;> exact rfl) ?_
                          refine ARN.fin1 (by first | (simp (disch := omega) only [go_sem, w64, wU, hca, hcb] <;> exact rfl) | exact rfl) ?_
                          show AW _ _ _ _ _
                          refine AW.regS rfl ?_
                          refine ARN.run1 (by simp (maxSteps := 1000000) only [go_sem, hca, hcb] <;> exact rfl) ?_
                          refine ARN.pcall (fun hp => c80 _ _) rfl (by simp (maxSteps := 1000000) only [go_sem, hca, hcb] <;> exact rfl) (by simp only [go_sem]) (by simp (maxSteps := 1000000) only [go_sem, hca, hcb] <;> exact rfl) ?_
                          refine ARN.run1 (by simp (maxSteps := 1000000) only [go_sem, hca, hcb] <;> exact rfl) ?_
                          refine ARN.fin (by first | (simp (disch := omega) only [go_sem, w64, wU, hca, hcb] <;> exact rfl) | exact rfl) ?_
                          refine retK.fin rfl (by simp (maxSteps := 1000000) only [go_sem, hca, hcb] <;> exact rfl) (by simp (maxSteps := 1000000) only [go_sem, hca, hcb] <;> exact rfl) (.of ?_)
                          obtain rfl : op = 13 := hc14
                          exact bin_leaf hf (by decide) (by decide) (by rw [raw13, cut_eq hf]; simp)
                        · try simp only [decide_eq_true_eq, decide_eq_false_iff_not, Bool.or_eq_true, Bool.or_eq_false_iff, Bool.and_eq_true, Bool.and_eq_false_imp, Bool.not_eq_true', Bool.not_eq_false'] at hc14
                          refine AW.regR rfl (by simp (maxSteps := 1000000) only [go_sem, hca, hcb] <;> exact rfl) (by first | (simp (disch := omega) only [go_sem, w64, wU, hca, hcb] <;> exact rfl) | exact rfl) ?_
                          refine AW.cond (by simp (maxSteps := 1000000) only [go_sem, hca, hcb] <;> exact rfl) (fun hc15 => ?_) (fun hc15 => ?_)
                          · try simp only [decide_eq_true_eq, decide_eq_false_iff_not, Bool.or_eq_true, Bool.or_eq_false_iff, Bool.and_eq_true, Bool.and_eq_false_imp, Bool.not_eq_true', Bool.not_eq_false'] at hc15
                            refine AW.reg rfl ?_
                            refine ARN.run1 (by simp (maxSteps := 1000000) only [go_sem, hca, hcb] <;> exact rfl) ?_
                            refine ARN.pcall (fun hp => c83 _ _) rfl (by simp (maxSteps := 1000000) only [go_sem, hca, hcb] <;> exact rfl) (by simp only [go_sem]) (by simp (maxSteps := 1000000) only [go_sem, hca, hcb] <;> exact rfl) ?_
                            refine ARN.run1 (by simp (maxSteps := 1000000) only [go_sem, hca, hcb] <;> exact rfl) ?_
                            refine ARN.pcall (fun hp => c83 _ _) rfl (by simp (maxSteps := 1000000) only [go_sem, hca, hcb] <;> exact rfl) (by simp only [go_sem]) (by simp (maxSteps := 1000000) only [go_sem, hca, hcb] <;> exact rfl) ?_
                            refine ARN.run1 (by simp (maxSteps := 1000000) only [go_sem, hca, hcb] <;> exact rfl) ?_
                            refine ARN.pcall (fun hp => c82 _) rfl (by simp (maxSteps := 1000000) only [go_sem, hca, hcb] <;> exact rfl) (by simp only [go_sem]) (by simp (maxSteps := 1000000) only [go_sem, hca, hcb] <;> exact rfl) ?_
                            refine ARN.run1 (by simp (maxSteps := 1000000) only [go_sem, hca, hcb] <;> exact rfl) ?_
                            refine ARN.fin1 (by first | (simp (disch := omega) only [go_sem, w64, wU, hca, hcb] <;> exact rfl) | exact rfl) ?_
                            show AW _ _ _ _ _
                            refine AW.regS rfl ?_
                            refine ARN.run1 (by simp (maxSteps := 1000000) only [go_sem, hca, hcb] <;> exact rfl) ?_
                            refine ARN.pcall (fun hp => c80 _ _) rfl (by simp (maxSteps := 1000000) only [go_sem, hca, hcb] <;> exact rfl) (by simp only [go_sem]) (by simp (maxSteps := 1000000) only [go_sem, hca, hcb] <;> exact rfl) ?_
                            refine ARN.run1 (by simp (maxSteps := 1000000) only [go_sem, hca, hcb] <;> exact rfl) ?_
                            refine ARN.fin (by first | (simp (disch := omega) only [go_sem, w64, wU, hca, hcb] <;> exact rfl) | exact rfl) ?_
                            refine retK.fin rfl (by simp (maxSteps := 1000000) only [go_sem, hca, hcb] <;> exact rfl) (by simp (maxSteps := 1000000) only [go_sem, hca, hcb] <;> exact rfl) (.of ?_)
                            obtain rfl : op = 14 := hc15
                            exact bin_leaf hf (by decide) (by decide) (by rw [raw14, cut_eq hf]; simp)
                          · try simp only [decide_eq_true_eq, decide_eq_false_iff_not, Bool.or_eq_true, Bool.or_eq_false_iff, Bool.and_eq_true, Bool.and_eq_false_imp, Bool.not_eq_true', Bool.not_eq_false'] at hc15
                            refine AW.reg rfl ?_
                            refine ARN.run1 (by simp (maxSteps := 1000000) only [go_sem, hca, hcb] <;> exact rfl) ?_
                            refine ARN.pcall (fun hp => c84 _ _ _ _ hf hA.1 hA.2 (mod_W hf b)) rfl (by simp (maxSteps := 1000000) only [go_sem, hca, hcb] <;> exact rfl) (by simp only [go_sem]) (by simp (maxSteps := 1000000) only [go_sem, hca, hcb] <;> exact rfl) ?_
                            refine ARN.run1 (by simp (maxSteps := 1000000) only [go_sem, hca, hcb] <;> exact rfl) ?_
                            refine ARN.fin1 (by first | (simp (disch := omega) only [go_sem, w64, wU, hca, hcb] <;> exact rfl) | exact rfl) ?_
                            show AW _ _ _ _ _
                            refine AW.regS rfl ?_
                            refine ARN.run1 (by simp (maxSteps := 1000000) only [go_sem, hca, hcb] <;> exact rfl) ?_
                            refine ARN.pcall (fun hp => c80 _ _) rfl (by simp (maxSteps := 1000000) only [go_sem, hca, hcb] <;> exact rfl) (by simp only [go_sem]) (by simp (maxSteps := 1000000) only [go_sem, hca, hcb] <;> exact rfl) ?_
                            refine ARN.run1 (by simp (maxSteps := 1000000) only [go_sem, hca, hcb] <;> exact rfl) ?_
                            refine ARN.fin (by first | (simp (disch := omega) only [go_sem, w64, wU, hca, hcb] <;> exact rfl) | exact rfl) ?_
                            refine retK.fin rfl (by simp (maxSteps := 1000000) only [go_sem, hca, hcb] <;> exact rfl) (by simp (maxSteps := 1000000) only [go_sem, hca, hcb] <;> exact rfl) (.of ?_)
                            exact bin_leaf hf (by omega) (by omega) (sh_leaf hf (by omega) hA.1 hA.2 hB.1)
theorem c58 (op w a : Int) (ha : W64 a) : PC Try.prog 58 [.int .i64 op, .int .i64 w, .int .u64 a] (.tup [.int .u64 (unW op w a), .int .i64 (unE op w)]) := by
  refine PC.start 27 Try.call58 Try.func58 rfl Try.ntmps58 Try.results58 (by simp only [go_sem]; exact rfl) fun z hz => ?_
  refine AW.regR rfl (by simp (maxSteps := 1000000) only [go_sem] <;> exact rfl) (by first | (simp (disch := omega) only [go_sem, w64, wU] <;> exact rfl) | exact rfl) ?_
  refine AW.seq ?_
  refine AW.regR rfl (by simp (maxSteps := 1000000) only [go_sem] <;> exact rfl) (by first | (simp (disch := omega) only [go_sem, w64, wU] <;> exact rfl) | exact rfl) ?_
  refine AW.cond (by simp (maxSteps := 1000000) only [go_sem] <;> exact rfl) (fun hc1 => ?_) (fun hc1 => ?_)
  · try simp only [decide_eq_true_eq, decide_eq_false_iff_not, Bool.or_eq_true, Bool.or_eq_false_iff, Bool.and_eq_true, Bool.and_eq_false_imp, Bool.not_eq_true', Bool.not_eq_false'] at hc1
    refine AW.regR rfl (by simp (maxSteps := 1000000) only [go_sem] <;> exact rfl) (by first | (simp (disch := omega) only [go_sem, w64, wU] <;> exact rfl) | exact rfl) ?_
    refine retK.fin rfl (by simp (maxSteps := 1000000) only [go_sem] <;> exact rfl) (by simp (maxSteps := 1000000) only [go_sem] <;> exact rfl) (.of ?_)
    exact un_bad (by omega)
  · try simp only [decide_eq_true_eq, decide_eq_false_iff_not, Bool.or_eq_true, Bool.or_eq_false_iff, Bool.and_eq_true, Bool.and_eq_false_imp, Bool.not_eq_true', Bool.not_eq_false'] at hc1
    refine AW.skip ?_
    show AW _ _ _ _ _
    refine AW.seq ?_
    refine AW.regS rfl ?_
    refine ARN.run1 (by simp (maxSteps := 1000000) only [go_sem] <;> exact rfl) ?_
    refine ARN.pcall (fun hp => c79 _) rfl (by simp (maxSteps := 1000000) only [go_sem] <;> exact rfl) (by simp only [go_sem]) (by simp (maxSteps := 1000000) only [go_sem] <;> exact rfl) ?_
    refine ARN.run1 (by simp (maxSteps := 1000000) only [go_sem] <;> exact rfl) ?_
    refine ARN.fin (by first | (simp (disch := omega) only [go_sem, w64, wU] <;> exact rfl) | exact rfl) ?_
    refine AW.cond (by simp (maxSteps := 1000000) only [go_sem] <;> exact rfl) (fun hc2 => ?_) (fun hc2 => ?_)
    · try simp only [decide_eq_true_eq, decide_eq_false_iff_not, Bool.or_eq_true, Bool.or_eq_false_iff, Bool.and_eq_true, Bool.and_eq_false_imp, Bool.not_eq_true', Bool.not_eq_false'] at hc2
      refine AW.regR rfl (by simp (maxSteps := 1000000) only [go_sem] <;> exact rfl) (by first | (simp (disch := omega) only [go_sem, w64, wU] <;> exact rfl) | exact rfl) ?_
      refine retK.fin rfl (by simp (maxSteps := 1000000) only [go_sem] <;> exact rfl) (by simp (maxSteps := 1000000) only [go_sem] <;> exact rfl) (.of ?_)
      exact un_unfit (by omega) hc2
    · try simp only [decide_eq_true_eq, decide_eq_false_iff_not, Bool.or_eq_true, Bool.or_eq_false_iff, Bool.and_eq_true, Bool.and_eq_false_imp, Bool.not_eq_true', Bool.not_eq_false'] at hc2
      refine AW.skip ?_
      show AW _ _ _ _ _
      refine AW.seq ?_
      refine AW.regR rfl (by simp (maxSteps := 1000000) only [go_sem] <;> exact rfl) (by first | (simp (disch := omega) only [go_sem, w64, wU] <;> exact rfl) | exact rfl) ?_
      refine AW.cond (by simp (maxSteps := 1000000) only [go_sem] <;> exact rfl) (fun hc3 => ?_) (fun hc3 => ?_)
      · try simp only [decide_eq_true_eq, decide_eq_false_iff_not, Bool.or_eq_true, Bool.or_eq_false_iff, Bool.and_eq_true, Bool.and_eq_false_imp, Bool.not_eq_true', Bool.not_eq_false'] at hc3
        refine AW.regS rfl ?_
        refine ARN.run1 (by simp (maxSteps := 1000000) only [go_sem] <;> exact rfl) ?_
        refine ARN.pcall (fun hp => c80 _ _) rfl (by simp (maxSteps := 1000000) only [go_sem] <;> exact rfl) (by simp only [go_sem]) (by simp (maxSteps := 1000000) only [go_sem] <;> exact rfl) ?_
        refine ARN.run1 (by simp (maxSteps := 1000000) only [go_sem] <;> exact rfl) ?_
        refine ARN.fin (by first | (simp (disch := omega) only [go_sem, w64, wU] <;> exact rfl) | exact rfl) ?_
        refine retK.fin rfl (by simp (maxSteps := 1000000) only [go_sem] <;> exact rfl) (by simp (maxSteps := 1000000) only [go_sem] <;> exact rfl) (.of ?_)
        have hf : fitW w := by simpa using hc2
        exact un_leaf hf (by omega) (by rw [com_cut hf ha, if_pos (by omega)])
      · try simp only [decide_eq_true_eq, decide_eq_false_iff_not, Bool.or_eq_true, Bool.or_eq_false_iff, Bool.and_eq_true, Bool.and_eq_false_imp, Bool.not_eq_true', Bool.not_eq_false'] at hc3
        refine AW.skip ?_
        show AW _ _ _ _ _
        refine AW.regS rfl ?_
        refine ARN.run1 (by simp (maxSteps := 1000000) only [go_sem] <;> exact rfl) ?_
        refine ARN.pcall (fun hp => c80 _ _) rfl (by simp (maxSteps := 1000000) only [go_sem] <;> exact rfl) (by simp only [go_sem]) (by simp (maxSteps := 1000000) only [go_sem] <;> exact rfl) ?_
        refine ARN.run1 (by simp (maxSteps := 1000000) only [go_sem] <;> exact rfl) ?_
        refine ARN.fin (by first | (simp (disch := omega) only [go_sem, w64, wU] <;> exact rfl) | exact rfl) ?_
        refine retK.fin rfl (by simp (maxSteps := 1000000) only [go_sem] <;> exact rfl) (by simp (maxSteps := 1000000) only [go_sem] <;> exact rfl) (.of ?_)
        have hf : fitW w := by simpa using hc2
        exact un_leaf hf (by omega) (by rw [neg_cut2 hf, if_neg (by omega)])
end Go.Ab.Try
