/- Where a code may go: the laws. -/
import Derived.Test.YtlgfbiepbneihaaRcK
namespace Go.Ab.Try
open Go.Proofs Go.Ab
set_option linter.unusedVariables false
set_option linter.unusedSimpArgs false
set_option linter.unnecessarySimpa false
set_option maxRecDepth 100000
theorem c3 (code : List Ins) (pc : Int) (hc : OkC code) : PC Try.prog 3 [.lst false 5 (code.map inR), .int .i64 pc] (.bool true) := by
  refine PC.start 55 Try.call3 Try.func3 rfl Try.ntmps3 Try.results3 (by simp only [go_sem]; exact rfl) fun z hz => ?_
  refine AW.regR rfl (by simp (maxSteps := 1000000) only [go_sem, beq_self_eq_true, Bool.and_self, Bool.not_true, Bool.or_self, decide_true] <;> exact rfl) (by first | (simp (disch := omega) only [go_sem, w64, wU, beq_self_eq_true, Bool.and_self, Bool.not_true, Bool.or_self, decide_true] <;> exact rfl) | exact rfl) ?_
  refine AW.seq ?_
  refine AW.regR rfl (by simp (maxSteps := 1000000) only [go_sem, beq_self_eq_true, Bool.and_self, Bool.not_true, Bool.or_self, decide_true] <;> exact rfl) (by first | (simp (disch := omega) only [go_sem, w64, wU, beq_self_eq_true, Bool.and_self, Bool.not_true, Bool.or_self, decide_true] <;> exact rfl) | exact rfl) ?_
  refine AW.cond (by simp (maxSteps := 1000000) only [go_sem, beq_self_eq_true, Bool.and_self, Bool.not_true, Bool.or_self, decide_true] <;> exact rfl) (fun hc1 => ?_) (fun hc1 => ?_)
  · try simp only [decide_eq_true_eq, decide_eq_false_iff_not, Bool.or_eq_true, Bool.or_eq_false_iff, Bool.and_eq_true, Bool.and_eq_false_imp, Bool.not_eq_true', Bool.not_eq_false'] at hc1
    refine AW.regS rfl ?_
    refine ARN.pcall (fun hp => c13) rfl (by simp (maxSteps := 1000000) only [go_sem, beq_self_eq_true, Bool.and_self, Bool.not_true, Bool.or_self, decide_true] <;> exact rfl) (by simp only [go_sem]) (by simp (maxSteps := 1000000) only [go_sem, beq_self_eq_true, Bool.and_self, Bool.not_true, Bool.or_self, decide_true] <;> exact rfl) ?_
    refine ARN.run1 (by simp (maxSteps := 1000000) only [go_sem, beq_self_eq_true, Bool.and_self, Bool.not_true, Bool.or_self, decide_true] <;> exact rfl) ?_
    refine ARN.fin (by first | (simp (disch := omega) only [go_sem, w64, wU, beq_self_eq_true, Bool.and_self, Bool.not_true, Bool.or_self, decide_true] <;> exact rfl) | exact rfl) ?_
    refine retK.fin rfl (by simp (maxSteps := 1000000) only [go_sem, beq_self_eq_true, Bool.and_self, Bool.not_true, Bool.or_self, decide_true] <;> exact rfl) (by simp (maxSteps := 1000000) only [go_sem, beq_self_eq_true, Bool.and_self, Bool.not_true, Bool.or_self, decide_true] <;> exact rfl) (.of ?_)
    rfl
  · try simp only [decide_eq_true_eq, decide_eq_false_iff_not, Bool.or_eq_true, Bool.or_eq_false_iff, Bool.and_eq_true, Bool.and_eq_false_imp, Bool.not_eq_true', Bool.not_eq_false'] at hc1
    refine AW.skip ?_
    show AW _ _ _ _ _
    refine AW.seq ?_
    refine AW.regR rfl (by simp (maxSteps := 1000000) only [go_sem, beq_self_eq_true, Bool.and_self, Bool.not_true, Bool.or_self, decide_true] <;> exact rfl) (by first | (simp (disch := omega) only [go_sem, w64, wU, beq_self_eq_true, Bool.and_self, Bool.not_true, Bool.or_self, decide_true] <;> exact rfl) | exact rfl) ?_
    refine AW.block ?_
    refine AW.loopVh (α := (Int)) (fun (i : (Int)) => [(5, .pv (.int .i64 i))]) (fun (i : (Int)) => (0 ≤ i) ∧ (i ≤ (code.length : Int))) (fun (i : (Int)) => ((code.length : Int) - i).toNat) 0 ?_ ?_ ?_
    · exact ⟨by omega, by omega⟩
    · refine Wk.sub ?_
      simp (maxSteps := 1000000) (disch := omega) only [go_sem, w64, wU, beq_self_eq_true, Bool.and_self, Bool.not_true, Bool.or_self, decide_true]
    · rintro i hF _ ht
      simp only [updT, go_sem] at ht
      subst ht
      obtain ⟨h1, h2⟩ := hF
      refine AW.seq ?_
      refine AW.regR rfl (by simp (maxSteps := 1000000) only [go_sem, beq_self_eq_true, Bool.and_self, Bool.not_true, Bool.or_self, decide_true] <;> exact rfl) (by first | (simp (disch := omega) only [go_sem, w64, wU, beq_self_eq_true, Bool.and_self, Bool.not_true, Bool.or_self, decide_true] <;> exact rfl) | exact rfl) ?_
      refine AW.cond (by simp (maxSteps := 1000000) only [go_sem, beq_self_eq_true, Bool.and_self, Bool.not_true, Bool.or_self, decide_true] <;> exact rfl) (fun hc2 => ?_) (fun hc2 => ?_)
      · try simp only [decide_eq_true_eq, decide_eq_false_iff_not, Bool.or_eq_true, Bool.or_eq_false_iff, Bool.and_eq_true, Bool.and_eq_false_imp, Bool.not_eq_true', Bool.not_eq_false'] at hc2
        have g1 : 0 ≤ i := h1
        have g2 : i < (code.length : Int) := hc2
        have hwi : IntKind.i64.wrap (i + 1) = i + 1 := w64 (by omega) (by omega)
        have hnl := next_len code i
        refine AW.skip ?_
        show AW _ _ _ _ _
        refine AW.seq ?_
        refine AW.block ?_
        refine AW.regS rfl ?_
        refine ARN.run1 (by simp (maxSteps := 1000000) only [go_sem, beq_self_eq_true, Bool.and_self, Bool.not_true, Bool.or_self, decide_true, g1, g2, hwi, hnl] <;> exact rfl) ?_
        refine ARN.pcall (fun hp => c15 code i hc (by omega)) rfl (by simp (maxSteps := 1000000) only [go_sem, beq_self_eq_true, Bool.and_self, Bool.not_true, Bool.or_self, decide_true, g1, g2, hwi, hnl] <;> exact rfl) (by simp only [go_sem]) (by simp (maxSteps := 1000000) only [go_sem, beq_self_eq_true, Bool.and_self, Bool.not_true, Bool.or_self, decide_true, g1, g2, hwi, hnl] <;> exact rfl) ?_
        refine ARN.run1 (by simp (maxSteps := 1000000) only [go_sem, beq_self_eq_true, Bool.and_self, Bool.not_true, Bool.or_self, decide_true, g1, g2, hwi, hnl] <;> exact rfl) ?_
        refine ARN.pcall (fun hp => c16 code i hc (by omega)) rfl (by simp (maxSteps := 1000000) only [go_sem, beq_self_eq_true, Bool.and_self, Bool.not_true, Bool.or_self, decide_true, g1, g2, hwi, hnl] <;> exact rfl) (by simp only [go_sem]) (by simp (maxSteps := 1000000) only [go_sem, beq_self_eq_true, Bool.and_self, Bool.not_true, Bool.or_self, decide_true, g1, g2, hwi, hnl] <;> exact rfl) ?_
        refine ARN.pcall (fun hp => c14 (nextS code i) (nextS code i) false false (by omega) (by omega)) rfl (by simp (maxSteps := 1000000) only [go_sem, beq_self_eq_true, Bool.and_self, Bool.not_true, Bool.or_self, decide_true, g1, g2, hwi, hnl] <;> exact rfl) (by simp only [go_sem]) (by simp (maxSteps := 1000000) only [go_sem, beq_self_eq_true, Bool.and_self, Bool.not_true, Bool.or_self, decide_true, g1, g2, hwi, hnl] <;> exact rfl) ?_
        refine ARN.run1 (by simp (maxSteps := 1000000) only [go_sem, beq_self_eq_true, Bool.and_self, Bool.not_true, Bool.or_self, decide_true, g1, g2, hwi, hnl] <;> exact rfl) ?_
        refine ARN.fin (by first | (simp (disch := omega) only [go_sem, w64, wU, beq_self_eq_true, Bool.and_self, Bool.not_true, Bool.or_self, decide_true, g1, g2, hwi, hnl] <;> exact rfl) | exact rfl) ?_
        refine AW.condF (by simp (maxSteps := 1000000) only [go_sem, beq_self_eq_true, Bool.and_self, Bool.not_true, Bool.or_self, decide_true, g1, g2, hwi, hnl] <;> exact rfl) ?_
        refine AW.skip ?_
        show AW _ _ _ _ _
        refine AW.regR1 rfl (by simp (maxSteps := 1000000) only [go_sem, beq_self_eq_true, Bool.and_self, Bool.not_true, Bool.or_self, decide_true, g1, g2, hwi, hnl] <;> exact rfl) (by first | (simp (disch := omega) only [go_sem, w64, wU, beq_self_eq_true, Bool.and_self, Bool.not_true, Bool.or_self, decide_true, g1, g2, hwi, hnl] <;> exact rfl) | exact rfl) ?_
        refine ⟨(i + 1), ?_, ?_, ?_⟩
        · (try dsimp only); omega
        · exact ⟨by omega, by omega⟩
        · refine Wk.sub ?_
          simp (maxSteps := 1000000) (disch := omega) only [go_sem, w64, wU, beq_self_eq_true, Bool.and_self, Bool.not_true, Bool.or_self, decide_true, g1, g2, hwi, hnl]
      · try simp only [decide_eq_true_eq, decide_eq_false_iff_not, Bool.or_eq_true, Bool.or_eq_false_iff, Bool.and_eq_true, Bool.and_eq_false_imp, Bool.not_eq_true', Bool.not_eq_false'] at hc2
        refine AW.exit ?_
        show AW _ _ _ _ _
        have hn2 := next_len code pc
        have hbl := blk_few code
        refine AW.regS rfl ?_
        refine ARN.run1 (by simp (maxSteps := 1000000) only [go_sem, beq_self_eq_true, Bool.and_self, Bool.not_true, Bool.or_self, decide_true, hn2, hbl] <;> exact rfl) ?_
        refine ARN.pcall (fun hp => c15 code pc hc (by omega)) rfl (by simp (maxSteps := 1000000) only [go_sem, beq_self_eq_true, Bool.and_self, Bool.not_true, Bool.or_self, decide_true, hn2, hbl] <;> exact rfl) (by simp only [go_sem]) (by simp (maxSteps := 1000000) only [go_sem, beq_self_eq_true, Bool.and_self, Bool.not_true, Bool.or_self, decide_true, hn2, hbl] <;> exact rfl) ?_
        refine ARN.run1 (by simp (maxSteps := 1000000) only [go_sem, beq_self_eq_true, Bool.and_self, Bool.not_true, Bool.or_self, decide_true, hn2, hbl] <;> exact rfl) ?_
        refine ARN.pcall (fun hp => c16 code pc hc (by omega)) rfl (by simp (maxSteps := 1000000) only [go_sem, beq_self_eq_true, Bool.and_self, Bool.not_true, Bool.or_self, decide_true, hn2, hbl] <;> exact rfl) (by simp only [go_sem]) (by simp (maxSteps := 1000000) only [go_sem, beq_self_eq_true, Bool.and_self, Bool.not_true, Bool.or_self, decide_true, hn2, hbl] <;> exact rfl) ?_
        refine ARN.pcall (fun hp => c14 (nextS code pc) (nextS code pc) false false (by omega) (by omega)) rfl (by simp (maxSteps := 1000000) only [go_sem, beq_self_eq_true, Bool.and_self, Bool.not_true, Bool.or_self, decide_true, hn2, hbl] <;> exact rfl) (by simp only [go_sem]) (by simp (maxSteps := 1000000) only [go_sem, beq_self_eq_true, Bool.and_self, Bool.not_true, Bool.or_self, decide_true, hn2, hbl] <;> exact rfl) ?_
        refine ARN.run1 (by simp (maxSteps := 1000000) only [go_sem, beq_self_eq_true, Bool.and_self, Bool.not_true, Bool.or_self, decide_true, hn2, hbl] <;> exact rfl) ?_
        refine ARN.pcall (fun hp => c18 code hc (by omega)) rfl (by simp (maxSteps := 1000000) only [go_sem, beq_self_eq_true, Bool.and_self, Bool.not_true, Bool.or_self, decide_true, hn2, hbl] <;> exact rfl) (by simp only [go_sem]) (by simp (maxSteps := 1000000) only [go_sem, beq_self_eq_true, Bool.and_self, Bool.not_true, Bool.or_self, decide_true, hn2, hbl] <;> exact rfl) ?_
        refine ARN.run1 (by simp (maxSteps := 1000000) only [go_sem, beq_self_eq_true, Bool.and_self, Bool.not_true, Bool.or_self, decide_true, hn2, hbl] <;> exact rfl) ?_
        refine ARN.pcall (fun hp => c19 code hc (by omega)) rfl (by simp (maxSteps := 1000000) only [go_sem, beq_self_eq_true, Bool.and_self, Bool.not_true, Bool.or_self, decide_true, hn2, hbl] <;> exact rfl) (by simp only [go_sem]) (by simp (maxSteps := 1000000) only [go_sem, beq_self_eq_true, Bool.and_self, Bool.not_true, Bool.or_self, decide_true, hn2, hbl] <;> exact rfl) ?_
        refine ARN.pcall (fun hp => c17 (reachL code zeS) (reachL code zeS) false false (by rw [reachL_len]; omega) (by rw [reachL_len]; omega)) rfl (by simp (maxSteps := 1000000) only [go_sem, beq_self_eq_true, Bool.and_self, Bool.not_true, Bool.or_self, decide_true, hn2, hbl] <;> exact rfl) (by simp only [go_sem]) (by simp (maxSteps := 1000000) only [go_sem, beq_self_eq_true, Bool.and_self, Bool.not_true, Bool.or_self, decide_true, hn2, hbl] <;> exact rfl) ?_
        refine ARN.run1 (by simp (maxSteps := 1000000) only [go_sem, beq_self_eq_true, Bool.and_self, Bool.not_true, Bool.or_self, decide_true, hn2, hbl] <;> exact rfl) ?_
        refine ARN.pcall (fun hp => c21 code hc (by omega)) rfl (by simp (maxSteps := 1000000) only [go_sem, beq_self_eq_true, Bool.and_self, Bool.not_true, Bool.or_self, decide_true, hn2, hbl] <;> exact rfl) (by simp only [go_sem]) (by simp (maxSteps := 1000000) only [go_sem, beq_self_eq_true, Bool.and_self, Bool.not_true, Bool.or_self, decide_true, hn2, hbl] <;> exact rfl) ?_
        refine ARN.run1 (by simp (maxSteps := 1000000) only [go_sem, beq_self_eq_true, Bool.and_self, Bool.not_true, Bool.or_self, decide_true, hn2, hbl] <;> exact rfl) ?_
        refine ARN.pcall (fun hp => c22 code hc (by omega)) rfl (by simp (maxSteps := 1000000) only [go_sem, beq_self_eq_true, Bool.and_self, Bool.not_true, Bool.or_self, decide_true, hn2, hbl] <;> exact rfl) (by simp only [go_sem]) (by simp (maxSteps := 1000000) only [go_sem, beq_self_eq_true, Bool.and_self, Bool.not_true, Bool.or_self, decide_true, hn2, hbl] <;> exact rfl) ?_
        refine ARN.pcall (fun hp => c20 (blkS code) (blkS code) false false (by omega) (by omega)) rfl (by simp (maxSteps := 1000000) only [go_sem, beq_self_eq_true, Bool.and_self, Bool.not_true, Bool.or_self, decide_true, hn2, hbl] <;> exact rfl) (by simp only [go_sem]) (by simp (maxSteps := 1000000) only [go_sem, beq_self_eq_true, Bool.and_self, Bool.not_true, Bool.or_self, decide_true, hn2, hbl] <;> exact rfl) ?_
        refine ARN.run1 (by simp (maxSteps := 1000000) only [go_sem, beq_self_eq_true, Bool.and_self, Bool.not_true, Bool.or_self, decide_true, hn2, hbl] <;> exact rfl) ?_
        refine ARN.pcall (fun hp => c23 code hc (by omega)) rfl (by simp (maxSteps := 1000000) only [go_sem, beq_self_eq_true, Bool.and_self, Bool.not_true, Bool.or_self, decide_true, hn2, hbl] <;> exact rfl) (by simp only [go_sem]) (by simp (maxSteps := 1000000) only [go_sem, beq_self_eq_true, Bool.and_self, Bool.not_true, Bool.or_self, decide_true, hn2, hbl] <;> exact rfl) ?_
        refine ARN.run1 (by simp (maxSteps := 1000000) only [go_sem, beq_self_eq_true, Bool.and_self, Bool.not_true, Bool.or_self, decide_true, hn2, hbl] <;> exact rfl) ?_
        refine ARN.pcall (fun hp => c24 code hc (by omega)) rfl (by simp (maxSteps := 1000000) only [go_sem, beq_self_eq_true, Bool.and_self, Bool.not_true, Bool.or_self, decide_true, hn2, hbl] <;> exact rfl) (by simp only [go_sem]) (by simp (maxSteps := 1000000) only [go_sem, beq_self_eq_true, Bool.and_self, Bool.not_true, Bool.or_self, decide_true, hn2, hbl] <;> exact rfl) ?_
        refine ARN.run1 (by simp (maxSteps := 1000000) only [go_sem, beq_self_eq_true, Bool.and_self, Bool.not_true, Bool.or_self, decide_true, hn2, hbl] <;> exact rfl) ?_
        refine ARN.pcall (fun hp => c13) rfl (by simp (maxSteps := 1000000) only [go_sem, beq_self_eq_true, Bool.and_self, Bool.not_true, Bool.or_self, decide_true, hn2, hbl] <;> exact rfl) (by simp only [go_sem]) (by simp (maxSteps := 1000000) only [go_sem, beq_self_eq_true, Bool.and_self, Bool.not_true, Bool.or_self, decide_true, hn2, hbl] <;> exact rfl) ?_
        refine ARN.run1 (by simp (maxSteps := 1000000) only [go_sem, beq_self_eq_true, Bool.and_self, Bool.not_true, Bool.or_self, decide_true, hn2, hbl] <;> exact rfl) ?_
        refine ARN.fin (by first | (simp (disch := omega) only [go_sem, w64, wU, beq_self_eq_true, Bool.and_self, Bool.not_true, Bool.or_self, decide_true, hn2, hbl] <;> exact rfl) | exact rfl) ?_
        refine retK.fin rfl (by simp (maxSteps := 1000000) only [go_sem, beq_self_eq_true, Bool.and_self, Bool.not_true, Bool.or_self, decide_true, hn2, hbl] <;> exact rfl) (by simp (maxSteps := 1000000) only [go_sem, beq_self_eq_true, Bool.and_self, Bool.not_true, Bool.or_self, decide_true, hn2, hbl] <;> exact rfl) (.of ?_)
        exact congrArg PV.bool (by simp)
end Go.Ab.Try
