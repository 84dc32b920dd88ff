/- Where a run may go, by both. -/
import Derived.Test.YtlgfbiepbneihaaLvF
namespace Go.Ab.Try
open Go.Proofs Go.Ab
set_option linter.unusedVariables false
set_option linter.unusedSimpArgs false
set_option linter.unnecessarySimpa false
set_option maxRecDepth 100000
theorem c16 (code : List Ins) (pc : Int) (hc : OkC code) (hL : code.length ≤ 100) : PC Try.prog 16 [.lst false 5 (code.map inR), .int .i64 pc] (.lst false 1 ((nextS code pc).map nR)) := by
  refine PC.start 51 Try.call16 Try.func16 rfl Try.ntmps16 Try.results16 (by simp only [go_sem]; exact rfl) fun z hz => ?_
  refine AW.regR rfl (by simp (maxSteps := 1000000) only [go_sem] <;> exact rfl) (by first | (simp (disch := omega) only [go_sem, w64, wU] <;> exact rfl) | exact rfl) ?_
  refine AW.seq ?_
  by_cases hs1 : 0 ≤ pc ∧ pc < (code.length : Int)
  · have q0 := hs1.1; have q1 := hs1.2; have q2 : decide (pc < 0) = false := decide_eq_false (by omega); have q3 : decide ((code.length : Int) ≤ pc) = false := decide_eq_false (by omega); obtain ⟨⟨op, a, b, c, m⟩, hI⟩ : ∃ i, code.getD pc.toNat i0 = i := ⟨_, rfl⟩; have hr := in_at hs1; rw [hI] at hr; have hwp : IntKind.i64.wrap (pc + 1) = pc + 1 := w64 (by omega) (by omega); have hm : W64 m := by have := hc _ (getD_mem (d := i0) (show pc.toNat < code.length by omega)); rw [hI] at this; exact this
    refine AW.regS rfl ?_
    refine ARN.run1 (by simp (maxSteps := 1000000) only [go_sem, hs1, q0, q1, q2, q3, hr, hwp] <;> exact rfl) ?_
    refine ARN.pcall (fun hp => c51 op a b c m 0 code.length hm) rfl (by simp (maxSteps := 1000000) only [go_sem, hs1, q0, q1, q2, q3, hr, hwp] <;> exact rfl) (by simp only [go_sem]) (by simp (maxSteps := 1000000) only [go_sem, hs1, q0, q1, q2, q3, hr, hwp] <;> exact rfl) ?_
    refine ARN.run1 (by simp (maxSteps := 1000000) only [go_sem, hs1, q0, q1, q2, q3, hr, hwp] <;> exact rfl) ?_
    refine ARN.fin (by first | (simp (disch := omega) only [go_sem, w64, wU, hs1, q0, q1, q2, q3, hr, hwp] <;> exact rfl) | exact rfl) ?_
    refine AW.cond (by simp (maxSteps := 1000000) only [go_sem, hs1, q0, q1, q2, q3, hr, hwp] <;> exact rfl) (fun hc1 => ?_) (fun hc1 => ?_)
    · try simp only [decide_eq_true_eq, decide_eq_false_iff_not, Bool.or_eq_true, Bool.or_eq_false_iff, Bool.and_eq_true, Bool.and_eq_false_imp, Bool.not_eq_true', Bool.not_eq_false'] at hc1
      refine AW.regR rfl (by simp (maxSteps := 1000000) only [go_sem, hs1, q0, q1, q2, q3, hr, hwp] <;> exact rfl) (by first | (simp (disch := omega) only [go_sem, w64, wU, hs1, q0, q1, q2, q3, hr, hwp] <;> exact rfl) | exact rfl) ?_
      refine retK.fin rfl (by simp (maxSteps := 1000000) only [go_sem, hs1, q0, q1, q2, q3, hr, hwp] <;> exact rfl) (by simp (maxSteps := 1000000) only [go_sem, hs1, q0, q1, q2, q3, hr, hwp] <;> exact rfl) ?_
      rw [next_bad q0 q1 hI (by simpa using hc1)]; exact Sub.nil0 0 1 true
    · try simp only [decide_eq_true_eq, decide_eq_false_iff_not, Bool.or_eq_true, Bool.or_eq_false_iff, Bool.and_eq_true, Bool.and_eq_false_imp, Bool.not_eq_true', Bool.not_eq_false'] at hc1
      refine AW.skip ?_
      show AW _ _ _ _ _
      refine AW.regR rfl (by simp (maxSteps := 1000000) only [go_sem, hs1, q0, q1, q2, q3, hr, hwp] <;> exact rfl) (by first | (simp (disch := omega) only [go_sem, w64, wU, hs1, q0, q1, q2, q3, hr, hwp] <;> exact rfl) | exact rfl) ?_
      refine AW.seq ?_
      refine AW.regR rfl (by simp (maxSteps := 1000000) only [go_sem, hs1, q0, q1, q2, q3, hr, hwp] <;> exact rfl) (by first | (simp (disch := omega) only [go_sem, w64, wU, hs1, q0, q1, q2, q3, hr, hwp] <;> exact rfl) | exact rfl) ?_
      refine AW.block ?_
      refine AW.regR rfl (by simp (maxSteps := 1000000) only [go_sem, hs1, q0, q1, q2, q3, hr, hwp] <;> exact rfl) (by first | (simp (disch := omega) only [go_sem, w64, wU, hs1, q0, q1, q2, q3, hr, hwp] <;> exact rfl) | exact rfl) ?_
      refine AW.cond (by simp (maxSteps := 1000000) only [go_sem, hs1, q0, q1, q2, q3, hr, hwp] <;> exact rfl) (fun hc2 => ?_) (fun hc2 => ?_)
      · try simp only [decide_eq_true_eq, decide_eq_false_iff_not, Bool.or_eq_true, Bool.or_eq_false_iff, Bool.and_eq_true, Bool.and_eq_false_imp, Bool.not_eq_true', Bool.not_eq_false'] at hc2
        have hwm : IntKind.i64.wrap m = m := by have := chk_jump hc1 (.inl hc2) (by omega) (by omega); have := hm.1; exact w64 (by omega) (by omega)
        refine AW.regR rfl (by simp (maxSteps := 1000000) only [go_sem, hs1, q0, q1, q2, q3, hr, hwp, hwm] <;> exact rfl) (by first | (simp (disch := omega) only [go_sem, w64, wU, hs1, q0, q1, q2, q3, hr, hwp, hwm] <;> exact rfl) | exact rfl) ?_
        refine retK.fin rfl (by simp (maxSteps := 1000000) only [go_sem, hs1, q0, q1, q2, q3, hr, hwp, hwm] <;> exact rfl) (by simp (maxSteps := 1000000) only [go_sem, hs1, q0, q1, q2, q3, hr, hwp, hwm] <;> exact rfl) ?_
        rw [next_is q0 q1 hI (by simpa using hc1), hc2, nextI_5]; exact Sub.full 1 [[.int .i64 m]] true
      · try simp only [decide_eq_true_eq, decide_eq_false_iff_not, Bool.or_eq_true, Bool.or_eq_false_iff, Bool.and_eq_true, Bool.and_eq_false_imp, Bool.not_eq_true', Bool.not_eq_false'] at hc2
        refine AW.regR rfl (by simp (maxSteps := 1000000) only [go_sem, hs1, q0, q1, q2, q3, hr, hwp] <;> exact rfl) (by first | (simp (disch := omega) only [go_sem, w64, wU, hs1, q0, q1, q2, q3, hr, hwp] <;> exact rfl) | exact rfl) ?_
        refine AW.cond (by simp (maxSteps := 1000000) only [go_sem, hs1, q0, q1, q2, q3, hr, hwp] <;> exact rfl) (fun hc3 => ?_) (fun hc3 => ?_)
        · try simp only [decide_eq_true_eq, decide_eq_false_iff_not, Bool.or_eq_true, Bool.or_eq_false_iff, Bool.and_eq_true, Bool.and_eq_false_imp, Bool.not_eq_true', Bool.not_eq_false'] at hc3
          have hwm : IntKind.i64.wrap m = m := by have := chk_jump hc1 (.inr hc3) (by omega) (by omega); have := hm.1; exact w64 (by omega) (by omega)
          refine AW.regS rfl ?_
          refine ARN.run1 (by simp (maxSteps := 1000000) only [go_sem, hs1, q0, q1, q2, q3, hr, hwp, hwm] <;> exact rfl) ?_
          refine ARN.pcall (fun hp => c52 (pc + 1) m) rfl (by simp (maxSteps := 1000000) only [go_sem, hs1, q0, q1, q2, q3, hr, hwp, hwm] <;> exact rfl) (by simp only [go_sem]) (by simp (maxSteps := 1000000) only [go_sem, hs1, q0, q1, q2, q3, hr, hwp, hwm] <;> exact rfl) ?_
          refine ARN.run1 (by simp (maxSteps := 1000000) only [go_sem, hs1, q0, q1, q2, q3, hr, hwp, hwm] <;> exact rfl) ?_
          refine ARN.fin (by first | (simp (disch := omega) only [go_sem, w64, wU, hs1, q0, q1, q2, q3, hr, hwp, hwm] <;> exact rfl) | exact rfl) ?_
          refine retK.fin rfl (by simp (maxSteps := 1000000) only [go_sem, hs1, q0, q1, q2, q3, hr, hwp, hwm] <;> exact rfl) (by simp (maxSteps := 1000000) only [go_sem, hs1, q0, q1, q2, q3, hr, hwp, hwm] <;> exact rfl) ?_
          rw [next_is q0 q1 hI (by simpa using hc1), hc3, ← sort2_6]; exact Sub.refl _
        · try simp only [decide_eq_true_eq, decide_eq_false_iff_not, Bool.or_eq_true, Bool.or_eq_false_iff, Bool.and_eq_true, Bool.and_eq_false_imp, Bool.not_eq_true', Bool.not_eq_false'] at hc3
          refine AW.seq ?_
          refine AW.regR rfl (by simp (maxSteps := 1000000) only [go_sem, hs1, q0, q1, q2, q3, hr, hwp] <;> exact rfl) (by first | (simp (disch := omega) only [go_sem, w64, wU, hs1, q0, q1, q2, q3, hr, hwp] <;> exact rfl) | exact rfl) ?_
          refine AW.cond (by simp (maxSteps := 1000000) only [go_sem, hs1, q0, q1, q2, q3, hr, hwp] <;> exact rfl) (fun hc4 => ?_) (fun hc4 => ?_)
          · try simp only [decide_eq_true_eq, decide_eq_false_iff_not, Bool.or_eq_true, Bool.or_eq_false_iff, Bool.and_eq_true, Bool.and_eq_false_imp, Bool.not_eq_true', Bool.not_eq_false'] at hc4
            have h14 : op = 14 := hc4
            refine AW.skip ?_
            show AW _ _ _ _ _
            refine AW.condT (by simp (maxSteps := 1000000) only [go_sem, hs1, q0, q1, q2, q3, hr, hwp, h14] <;> exact rfl) ?_
            refine AW.regR rfl (by simp (maxSteps := 1000000) only [go_sem, hs1, q0, q1, q2, q3, hr, hwp, h14] <;> exact rfl) (by first | (simp (disch := omega) only [go_sem, w64, wU, hs1, q0, q1, q2, q3, hr, hwp, h14] <;> exact rfl) | exact rfl) ?_
            refine retK.fin rfl (by simp (maxSteps := 1000000) only [go_sem, hs1, q0, q1, q2, q3, hr, hwp, h14] <;> exact rfl) (by simp (maxSteps := 1000000) only [go_sem, hs1, q0, q1, q2, q3, hr, hwp, h14] <;> exact rfl) ?_
            rw [next_is q0 q1 hI (by simpa using hc1), h14, nextI_14]; exact Sub.nil0 0 1 true
          · try simp only [decide_eq_true_eq, decide_eq_false_iff_not, Bool.or_eq_true, Bool.or_eq_false_iff, Bool.and_eq_true, Bool.and_eq_false_imp, Bool.not_eq_true', Bool.not_eq_false'] at hc4
            refine AW.regR1 rfl (by simp (maxSteps := 1000000) only [go_sem, hs1, q0, q1, q2, q3, hr, hwp] <;> exact rfl) (by first | (simp (disch := omega) only [go_sem, w64, wU, hs1, q0, q1, q2, q3, hr, hwp] <;> exact rfl) | exact rfl) ?_
            show AW _ _ _ _ _
            refine AW.cond (by simp (maxSteps := 1000000) only [go_sem, hs1, q0, q1, q2, q3, hr, hwp] <;> exact rfl) (fun hc6 => ?_) (fun hc6 => ?_)
            · try simp only [decide_eq_true_eq, decide_eq_false_iff_not, Bool.or_eq_true, Bool.or_eq_false_iff, Bool.and_eq_true, Bool.and_eq_false_imp, Bool.not_eq_true', Bool.not_eq_false'] at hc6
              refine AW.regR rfl (by simp (maxSteps := 1000000) only [go_sem, hs1, q0, q1, q2, q3, hr, hwp] <;> exact rfl) (by first | (simp (disch := omega) only [go_sem, w64, wU, hs1, q0, q1, q2, q3, hr, hwp] <;> exact rfl) | exact rfl) ?_
              refine retK.fin rfl (by simp (maxSteps := 1000000) only [go_sem, hs1, q0, q1, q2, q3, hr, hwp] <;> exact rfl) (by simp (maxSteps := 1000000) only [go_sem, hs1, q0, q1, q2, q3, hr, hwp] <;> exact rfl) ?_
              rw [next_is q0 q1 hI (by simpa using hc1), hc6, nextI_15]; exact Sub.nil0 0 1 true
            · try simp only [decide_eq_true_eq, decide_eq_false_iff_not, Bool.or_eq_true, Bool.or_eq_false_iff, Bool.and_eq_true, Bool.and_eq_false_imp, Bool.not_eq_true', Bool.not_eq_false'] at hc6
              refine AW.skip ?_
              show AW _ _ _ _ _
              refine AW.regR rfl (by simp (maxSteps := 1000000) only [go_sem, hs1, q0, q1, q2, q3, hr, hwp] <;> exact rfl) (by first | (simp (disch := omega) only [go_sem, w64, wU, hs1, q0, q1, q2, q3, hr, hwp] <;> exact rfl) | exact rfl) ?_
              refine retK.fin rfl (by simp (maxSteps := 1000000) only [go_sem, hs1, q0, q1, q2, q3, hr, hwp] <;> exact rfl) (by simp (maxSteps := 1000000) only [go_sem, hs1, q0, q1, q2, q3, hr, hwp] <;> exact rfl) ?_
              rw [next_is q0 q1 hI (by simpa using hc1), nextI_o hc2 hc3 hc4 hc6]; exact Sub.full 1 [[.int .i64 (pc + 1)]] true
  · have q4 : or (decide (pc < 0)) (decide ((code.length : Int) ≤ pc)) = true := (by simp; omega); rcases Int.lt_or_le pc 0 with q5 | q5
    all_goals
      first | (have q6 : (0 ≤ pc) = False := eq_false (by omega)) | (have q6 : (code.map inR)[pc.toNat]? = none := in_none q5 hs1)
      have hb1 := decide_eq_false hs1
      refine AW.regS rfl ?_
      refine ARN.run1S (by simp (maxSteps := 1000000) only [go_sem, hb1, q4, q6] <;> exact rfl) ?_
      first | (refine ARN.pcall (fun hp => c51 op a b c m 0 code.length hm) rfl (by simp (maxSteps := 1000000) only [go_sem, hb1, q4, q6] <;> exact rfl) (by simp only [go_sem]) (by simp (maxSteps := 1000000) only [go_sem, hb1, q4, q6] <;> exact rfl) ?_) | skip
      refine ARN.run1S (by simp (maxSteps := 1000000) only [go_sem, hb1, q4, q6] <;> exact rfl) ?_
      refine ARN.fin (by first | (simp (disch := omega) only [go_sem, w64, wU, hb1, q4, q6] <;> exact rfl) | exact rfl) ?_
      refine AW.condT (by simp (maxSteps := 1000000) only [go_sem, hb1, q4, q6] <;> exact rfl) ?_
      refine AW.regR rfl (by simp (maxSteps := 1000000) only [go_sem, hb1, q4, q6] <;> exact rfl) (by first | (simp (disch := omega) only [go_sem, w64, wU, hb1, q4, q6] <;> exact rfl) | exact rfl) ?_
      refine retK.fin rfl (by simp (maxSteps := 1000000) only [go_sem, hb1, q4, q6] <;> exact rfl) (by simp (maxSteps := 1000000) only [go_sem, hb1, q4, q6] <;> exact rfl) ?_
      rw [next_out hs1]; exact Sub.nil0 0 1 true
theorem c15 (code : List Ins) (pc : Int) (hc : OkC code) (hL : code.length ≤ 100) : PC Try.prog 15 [.lst false 5 (code.map inR), .int .i64 pc] (.lst false 1 ((nextS code pc).map nR)) := by
  refine PC.start 59 Try.call15 Try.func15 rfl Try.ntmps15 Try.results15 (by simp only [go_sem]; exact rfl) fun z hz => ?_
  refine AW.regR rfl (by simp (maxSteps := 1000000) only [go_sem] <;> exact rfl) (by first | (simp (disch := omega) only [go_sem, w64, wU] <;> exact rfl) | exact rfl) ?_
  refine AW.seq ?_
  by_cases hs1 : 0 ≤ pc ∧ pc < (code.length : Int)
  · have q0 := hs1.1; have q1 := hs1.2; have q2 : decide (pc < 0) = false := decide_eq_false (by omega); have q3 : decide ((code.length : Int) ≤ pc) = false := decide_eq_false (by omega); obtain ⟨⟨op, a, b, c, m⟩, hI⟩ : ∃ i, code.getD pc.toNat i0 = i := ⟨_, rfl⟩; have hr := in_at hs1; rw [hI] at hr; have hwp : IntKind.i64.wrap (pc + 1) = pc + 1 := w64 (by omega) (by omega); have hm : W64 m := by have := hc _ (getD_mem (d := i0) (show pc.toNat < code.length by omega)); rw [hI] at this; exact this
    refine AW.regS rfl ?_
    refine ARN.run1 (by simp (maxSteps := 1000000) only [go_sem, hs1, q0, q1, q2, q3, hr, hwp] <;> exact rfl) ?_
    refine ARN.pcall (fun hp => c49 op a b c m 0 code.length hm) rfl (by simp (maxSteps := 1000000) only [go_sem, hs1, q0, q1, q2, q3, hr, hwp] <;> exact rfl) (by simp only [go_sem]) (by simp (maxSteps := 1000000) only [go_sem, hs1, q0, q1, q2, q3, hr, hwp] <;> exact rfl) ?_
    refine ARN.run1 (by simp (maxSteps := 1000000) only [go_sem, hs1, q0, q1, q2, q3, hr, hwp] <;> exact rfl) ?_
    refine ARN.fin (by first | (simp (disch := omega) only [go_sem, w64, wU, hs1, q0, q1, q2, q3, hr, hwp] <;> exact rfl) | exact rfl) ?_
    refine AW.cond (by simp (maxSteps := 1000000) only [go_sem, hs1, q0, q1, q2, q3, hr, hwp] <;> exact rfl) (fun hc1 => ?_) (fun hc1 => ?_)
    · try simp only [decide_eq_true_eq, decide_eq_false_iff_not, Bool.or_eq_true, Bool.or_eq_false_iff, Bool.and_eq_true, Bool.and_eq_false_imp, Bool.not_eq_true', Bool.not_eq_false'] at hc1
      refine AW.regR rfl (by simp (maxSteps := 1000000) only [go_sem, hs1, q0, q1, q2, q3, hr, hwp] <;> exact rfl) (by first | (simp (disch := omega) only [go_sem, w64, wU, hs1, q0, q1, q2, q3, hr, hwp] <;> exact rfl) | exact rfl) ?_
      refine retK.fin rfl (by simp (maxSteps := 1000000) only [go_sem, hs1, q0, q1, q2, q3, hr, hwp] <;> exact rfl) (by simp (maxSteps := 1000000) only [go_sem, hs1, q0, q1, q2, q3, hr, hwp] <;> exact rfl) ?_
      rw [next_bad q0 q1 hI (by simpa using hc1)]; exact Sub.nil0 0 1 true
    · try simp only [decide_eq_true_eq, decide_eq_false_iff_not, Bool.or_eq_true, Bool.or_eq_false_iff, Bool.and_eq_true, Bool.and_eq_false_imp, Bool.not_eq_true', Bool.not_eq_false'] at hc1
      refine AW.skip ?_
      show AW _ _ _ _ _
      refine AW.regR rfl (by simp (maxSteps := 1000000) only [go_sem, hs1, q0, q1, q2, q3, hr, hwp] <;> exact rfl) (by first | (simp (disch := omega) only [go_sem, w64, wU, hs1, q0, q1, q2, q3, hr, hwp] <;> exact rfl) | exact rfl) ?_
      refine AW.seq ?_
      refine AW.regR rfl (by simp (maxSteps := 1000000) only [go_sem, hs1, q0, q1, q2, q3, hr, hwp] <;> exact rfl) (by first | (simp (disch := omega) only [go_sem, w64, wU, hs1, q0, q1, q2, q3, hr, hwp] <;> exact rfl) | exact rfl) ?_
      refine AW.block ?_
      refine AW.regR rfl (by simp (maxSteps := 1000000) only [go_sem, hs1, q0, q1, q2, q3, hr, hwp] <;> exact rfl) (by first | (simp (disch := omega) only [go_sem, w64, wU, hs1, q0, q1, q2, q3, hr, hwp] <;> exact rfl) | exact rfl) ?_
      refine AW.cond (by simp (maxSteps := 1000000) only [go_sem, hs1, q0, q1, q2, q3, hr, hwp] <;> exact rfl) (fun hc2 => ?_) (fun hc2 => ?_)
      · try simp only [decide_eq_true_eq, decide_eq_false_iff_not, Bool.or_eq_true, Bool.or_eq_false_iff, Bool.and_eq_true, Bool.and_eq_false_imp, Bool.not_eq_true', Bool.not_eq_false'] at hc2
        have hwm : IntKind.i64.wrap m = m := by have := chk_jump hc1 (.inl hc2) (by omega) (by omega); have := hm.1; exact w64 (by omega) (by omega)
        refine AW.regR rfl (by simp (maxSteps := 1000000) only [go_sem, hs1, q0, q1, q2, q3, hr, hwp, hwm] <;> exact rfl) (by first | (simp (disch := omega) only [go_sem, w64, wU, hs1, q0, q1, q2, q3, hr, hwp, hwm] <;> exact rfl) | exact rfl) ?_
        refine retK.fin rfl (by simp (maxSteps := 1000000) only [go_sem, hs1, q0, q1, q2, q3, hr, hwp, hwm] <;> exact rfl) (by simp (maxSteps := 1000000) only [go_sem, hs1, q0, q1, q2, q3, hr, hwp, hwm] <;> exact rfl) ?_
        rw [next_is q0 q1 hI (by simpa using hc1), hc2, nextI_5]; exact Sub.full 1 [[.int .i64 m]] true
      · try simp only [decide_eq_true_eq, decide_eq_false_iff_not, Bool.or_eq_true, Bool.or_eq_false_iff, Bool.and_eq_true, Bool.and_eq_false_imp, Bool.not_eq_true', Bool.not_eq_false'] at hc2
        refine AW.regR rfl (by simp (maxSteps := 1000000) only [go_sem, hs1, q0, q1, q2, q3, hr, hwp] <;> exact rfl) (by first | (simp (disch := omega) only [go_sem, w64, wU, hs1, q0, q1, q2, q3, hr, hwp] <;> exact rfl) | exact rfl) ?_
        refine AW.cond (by simp (maxSteps := 1000000) only [go_sem, hs1, q0, q1, q2, q3, hr, hwp] <;> exact rfl) (fun hc3 => ?_) (fun hc3 => ?_)
        · try simp only [decide_eq_true_eq, decide_eq_false_iff_not, Bool.or_eq_true, Bool.or_eq_false_iff, Bool.and_eq_true, Bool.and_eq_false_imp, Bool.not_eq_true', Bool.not_eq_false'] at hc3
          have hwm : IntKind.i64.wrap m = m := by have := chk_jump hc1 (.inr hc3) (by omega) (by omega); have := hm.1; exact w64 (by omega) (by omega)
          by_cases hs8 : m = pc + 1
          · have hll : (pc + 1 < pc + 1) = False := eq_false (by omega)
            refine AW.regL ?_
            refine AWL.runGP 8 rfl rfl (by simp (maxSteps := 1000000) only [go_sem, hs1, q0, q1, q2, q3, hr, hwp, hwm, hs8, hll] <;> exact rfl) ?_
            refine AWL.bvec (by simp (maxSteps := 1000000) only [go_sem, hs1, q0, q1, q2, q3, hr, hwp, hwm, hs8, hll] <;> exact rfl) rfl (by simp (maxSteps := 1000000) only [go_sem, hs1, q0, q1, q2, q3, hr, hwp, hwm, hs8, hll] <;> exact rfl) (by decide) (by simp (maxSteps := 1000000) only [go_sem, hs1, q0, q1, q2, q3, hr, hwp, hwm, hs8, hll] <;> exact rfl) (by simp (maxSteps := 1000000) only [go_sem, hs1, q0, q1, q2, q3, hr, hwp, hwm, hs8, hll] <;> exact rfl) ?_
            refine AWL.runG (by simp (maxSteps := 1000000) only [go_sem, hs1, q0, q1, q2, q3, hr, hwp, hwm, hs8, hll] <;> exact rfl) ?_
            refine AWL.fin (by first | (simp (disch := omega) only [go_sem, w64, wU, hs1, q0, q1, q2, q3, hr, hwp, hwm, hs8, hll] <;> exact rfl) | exact rfl) ?_
            refine AW.regL ?_
            refine AWL.runG (by simp (maxSteps := 1000000) only [go_sem, hs1, q0, q1, q2, q3, hr, hwp, hwm, hs8, hll] <;> exact rfl) ?_
            refine AWL.icall2 rfl (by simp (maxSteps := 1000000) only [go_sem, hs1, q0, q1, q2, q3, hr, hwp, hwm, hs8, hll] <;> exact rfl) (by simp (maxSteps := 1000000) only [go_sem, hs1, q0, q1, q2, q3, hr, hwp, hwm, hs8, hll] <;> exact rfl) Try.call50 Try.func50 rfl Try.ntmps50 Try.results50 (by simp (maxSteps := 1000000) only [go_sem, hs1, q0, q1, q2, q3, hr, hwp, hwm, hs8, hll] <;> exact rfl) (by simp (maxSteps := 1000000) only [go_sem, hs1, q0, q1, q2, q3, hr, hwp, hwm, hs8, hll] <;> exact rfl) (fun z1 hz1 => ?_)
            refine AW.regR rfl (by simp (maxSteps := 1000000) only [go_sem, hs1, q0, q1, q2, q3, hr, hwp, hwm, hs8, hll] <;> exact rfl) (by first | (simp (disch := omega) only [go_sem, w64, wU, hs1, q0, q1, q2, q3, hr, hwp, hwm, hs8, hll] <;> exact rfl) | exact rfl) ?_
            refine AW.seq ?_
            refine AW.regR rfl (by simp (maxSteps := 1000000) only [go_sem, hs1, q0, q1, q2, q3, hr, hwp, hwm, hs8, hll] <;> exact rfl) (by first | (simp (disch := omega) only [go_sem, w64, wU, hs1, q0, q1, q2, q3, hr, hwp, hwm, hs8, hll] <;> exact rfl) | exact rfl) ?_
            refine AW.condF (by simp (maxSteps := 1000000) only [go_sem, hs1, q0, q1, q2, q3, hr, hwp, hwm, hs8, hll] <;> exact rfl) ?_
            refine AW.skip ?_
            show AW _ _ _ _ _
            refine AW.seq ?_
            refine AW.regR rfl (by simp (maxSteps := 1000000) only [go_sem, hs1, q0, q1, q2, q3, hr, hwp, hwm, hs8, hll] <;> exact rfl) (by first | (simp (disch := omega) only [go_sem, w64, wU, hs1, q0, q1, q2, q3, hr, hwp, hwm, hs8, hll] <;> exact rfl) | exact rfl) ?_
            refine AW.block ?_
            refine AW.rounds 2 ?_
            refine ARounds.mk ?_
            refine AW.seq ?_
            refine AW.regR rfl (by simp (maxSteps := 1000000) only [go_sem, hs1, q0, q1, q2, q3, hr, hwp, hwm, hs8, hll] <;> exact rfl) (by first | (simp (disch := omega) only [go_sem, w64, wU, hs1, q0, q1, q2, q3, hr, hwp, hwm, hs8, hll] <;> exact rfl) | exact rfl) ?_
            refine AW.condT (by simp (maxSteps := 1000000) only [go_sem, hs1, q0, q1, q2, q3, hr, hwp, hwm, hs8, hll] <;> exact rfl) ?_
            refine AW.skip ?_
            show AW _ _ _ _ _
            refine AW.seq ?_
            refine AW.block ?_
            refine AW.regDS follows (by kernel_rfl) ?_
            refine ARE.run1 (by simp (maxSteps := 1000000) only [go_sem, hs1, q0, q1, q2, q3, hr, hwp, hwm, hs8, hll] <;> exact rfl) ?_
            refine ARE.fin [0, 0, 3, 7, 0, 0, 32, 112, 240, 511] _ (by kernel_rfl) (by simp (maxSteps := 1000000) only [go_sem, hs1, q0, q1, q2, q3, hr, hwp, hwm, hs8, hll] <;> exact rfl) (by kernel_rfl) (by first | (simp (disch := omega) only [go_sem, w64, wU, hs1, q0, q1, q2, q3, hr, hwp, hwm, hs8, hll] <;> exact rfl) | exact rfl) ?_
            refine AW.condT (by simp (maxSteps := 1000000) only [go_sem, hs1, q0, q1, q2, q3, hr, hwp, hwm, hs8, hll] <;> exact rfl) ?_
            refine AW.regR rfl (by simp (maxSteps := 1000000) only [go_sem, hs1, q0, q1, q2, q3, hr, hwp, hwm, hs8, hll] <;> exact rfl) (by first | (simp (disch := omega) only [go_sem, w64, wU, hs1, q0, q1, q2, q3, hr, hwp, hwm, hs8, hll] <;> exact rfl) | exact rfl) ?_
            refine AW.seq ?_
            refine AW.regR rfl (by simp (maxSteps := 1000000) only [go_sem, hs1, q0, q1, q2, q3, hr, hwp, hwm, hs8, hll] <;> exact rfl) (by first | (simp (disch := omega) only [go_sem, w64, wU, hs1, q0, q1, q2, q3, hr, hwp, hwm, hs8, hll] <;> exact rfl) | exact rfl) ?_
            refine AW.block ?_
            refine AW.rounds 1 ?_
            refine ARounds.mk ?_
            refine AW.seq ?_
            refine AW.regR rfl (by simp (maxSteps := 1000000) only [go_sem, hs1, q0, q1, q2, q3, hr, hwp, hwm, hs8, hll] <;> exact rfl) (by first | (simp (disch := omega) only [go_sem, w64, wU, hs1, q0, q1, q2, q3, hr, hwp, hwm, hs8, hll] <;> exact rfl) | exact rfl) ?_
            refine AW.condF (by simp (maxSteps := 1000000) only [go_sem, hs1, q0, q1, q2, q3, hr, hwp, hwm, hs8, hll] <;> exact rfl) ?_
            refine AW.exit ?_
            show AW _ _ _ _ _
            refine AW.regL ?_
            refine AWL.runG (by simp (maxSteps := 1000000) only [go_sem, hs1, q0, q1, q2, q3, hr, hwp, hwm, hs8, hll] <;> exact rfl) ?_
            refine AWL.clr1 (by simp (maxSteps := 1000000) only [go_sem, hs1, q0, q1, q2, q3, hr, hwp, hwm, hs8, hll] <;> exact rfl) rfl (by simp (maxSteps := 1000000) only [go_sem, hs1, q0, q1, q2, q3, hr, hwp, hwm, hs8, hll] <;> exact rfl) (by simp (maxSteps := 1000000) only [go_sem, hs1, q0, q1, q2, q3, hr, hwp, hwm, hs8, hll] <;> exact rfl) (by simp (maxSteps := 1000000) only [go_sem, hs1, q0, q1, q2, q3, hr, hwp, hwm, hs8, hll] <;> exact rfl) (by simp (maxSteps := 1000000) only [go_sem, hs1, q0, q1, q2, q3, hr, hwp, hwm, hs8, hll] <;> exact rfl) (by simp) (by simp) (by simp (maxSteps := 1000000) only [go_sem, hs1, q0, q1, q2, q3, hr, hwp, hwm, hs8, hll] <;> exact rfl) (by simp (maxSteps := 1000000) only [go_sem, hs1, q0, q1, q2, q3, hr, hwp, hwm, hs8, hll] <;> exact rfl) ?_
            refine AWL.fin (by first | (simp (disch := omega) only [go_sem, w64, wU, hs1, q0, q1, q2, q3, hr, hwp, hwm, hs8, hll] <;> exact rfl) | exact rfl) ?_
            refine AW.regR rfl (by simp (maxSteps := 1000000) only [go_sem, hs1, q0, q1, q2, q3, hr, hwp, hwm, hs8, hll] <;> exact rfl) (by first | (simp (disch := omega) only [go_sem, w64, wU, hs1, q0, q1, q2, q3, hr, hwp, hwm, hs8, hll] <;> exact rfl) | exact rfl) ?_
            refine icK.finQ rfl (by simp (maxSteps := 1000000) only [go_sem, hs1, q0, q1, q2, q3, hr, hwp, hwm, hs8, hll] <;> exact rfl) (by simp (maxSteps := 1000000) only [go_sem, hs1, q0, q1, q2, q3, hr, hwp, hwm, hs8, hll] <;> exact rfl) ?_
            refine AWL.runG (by simp (maxSteps := 1000000) only [go_sem, hs1, q0, q1, q2, q3, hr, hwp, hwm, hs8, hll] <;> exact rfl) ?_
            refine AWL.fin (by first | (simp (disch := omega) only [go_sem, w64, wU, hs1, q0, q1, q2, q3, hr, hwp, hwm, hs8, hll] <;> exact rfl) | exact rfl) ?_
            refine retK.fin rfl (by simp (maxSteps := 1000000) only [go_sem, hs1, q0, q1, q2, q3, hr, hwp, hwm, hs8, hll] <;> exact rfl) (by simp (maxSteps := 1000000) only [go_sem, hs1, q0, q1, q2, q3, hr, hwp, hwm, hs8, hll] <;> exact rfl) ?_
            rw [next_is q0 q1 hI (by simpa using hc1), hc3, nextI_6, if_pos hs8.symm]; exact Sub.refl _
          · have hne : ¬ (if m < pc + 1 then pc + 1 else m) = (if pc + 1 < m then pc + 1 else m) := by split <;> split <;> omega
            have hb8 := decide_eq_false hs8
            refine AW.regL ?_
            refine AWL.runGP 8 rfl rfl (by simp (maxSteps := 1000000) only [go_sem, hs1, q0, q1, q2, q3, hr, hwp, hwm, hb8, hne] <;> exact rfl) ?_
            refine AWL.bvec (by simp (maxSteps := 1000000) only [go_sem, hs1, q0, q1, q2, q3, hr, hwp, hwm, hb8, hne] <;> exact rfl) rfl (by simp (maxSteps := 1000000) only [go_sem, hs1, q0, q1, q2, q3, hr, hwp, hwm, hb8, hne] <;> exact rfl) (by decide) (by simp (maxSteps := 1000000) only [go_sem, hs1, q0, q1, q2, q3, hr, hwp, hwm, hb8, hne] <;> exact rfl) (by simp (maxSteps := 1000000) only [go_sem, hs1, q0, q1, q2, q3, hr, hwp, hwm, hb8, hne] <;> exact rfl) ?_
            refine AWL.runG (by simp (maxSteps := 1000000) only [go_sem, hs1, q0, q1, q2, q3, hr, hwp, hwm, hb8, hne] <;> exact rfl) ?_
            refine AWL.fin (by first | (simp (disch := omega) only [go_sem, w64, wU, hs1, q0, q1, q2, q3, hr, hwp, hwm, hb8, hne] <;> exact rfl) | exact rfl) ?_
            refine AW.regL ?_
            refine AWL.runG (by simp (maxSteps := 1000000) only [go_sem, hs1, q0, q1, q2, q3, hr, hwp, hwm, hb8, hne] <;> exact rfl) ?_
            refine AWL.icall2 rfl (by simp (maxSteps := 1000000) only [go_sem, hs1, q0, q1, q2, q3, hr, hwp, hwm, hb8, hne] <;> exact rfl) (by simp (maxSteps := 1000000) only [go_sem, hs1, q0, q1, q2, q3, hr, hwp, hwm, hb8, hne] <;> exact rfl) Try.call50 Try.func50 rfl Try.ntmps50 Try.results50 (by simp (maxSteps := 1000000) only [go_sem, hs1, q0, q1, q2, q3, hr, hwp, hwm, hb8, hne] <;> exact rfl) (by simp (maxSteps := 1000000) only [go_sem, hs1, q0, q1, q2, q3, hr, hwp, hwm, hb8, hne] <;> exact rfl) (fun z2 hz2 => ?_)
            refine AW.regS rfl ?_
            refine ARN.run1S (by simp (maxSteps := 1000000) only [go_sem, hs1, q0, q1, q2, q3, hr, hwp, hwm, hb8, hne] <;> exact rfl) ?_
            refine ARN.fin (by first | (simp (disch := omega) only [go_sem, w64, wU, hs1, q0, q1, q2, q3, hr, hwp, hwm, hb8, hne] <;> exact rfl) | exact rfl) ?_
            refine AW.seq ?_
            refine AW.regS rfl ?_
            refine ARN.run1S (by simp (maxSteps := 1000000) only [go_sem, hs1, q0, q1, q2, q3, hr, hwp, hwm, hb8, hne] <;> exact rfl) ?_
            refine ARN.fin (by first | (simp (disch := omega) only [go_sem, w64, wU, hs1, q0, q1, q2, q3, hr, hwp, hwm, hb8, hne] <;> exact rfl) | exact rfl) ?_
            refine AW.condF (by simp (maxSteps := 1000000) only [go_sem, hs1, q0, q1, q2, q3, hr, hwp, hwm, hb8, hne] <;> exact rfl) ?_
            refine AW.skip ?_
            show AW _ _ _ _ _
            refine AW.seq ?_
            refine AW.regS rfl ?_
            refine ARN.run1S (by simp (maxSteps := 1000000) only [go_sem, hs1, q0, q1, q2, q3, hr, hwp, hwm, hb8, hne] <;> exact rfl) ?_
            refine ARN.fin (by first | (simp (disch := omega) only [go_sem, w64, wU, hs1, q0, q1, q2, q3, hr, hwp, hwm, hb8, hne] <;> exact rfl) | exact rfl) ?_
            refine AW.block ?_
            refine AW.rounds 2 ?_
            refine ARounds.mk ?_
            refine AW.seq ?_
            refine AW.regS rfl ?_
            refine ARN.run1S (by simp (maxSteps := 1000000) only [go_sem, hs1, q0, q1, q2, q3, hr, hwp, hwm, hb8, hne] <;> exact rfl) ?_
            refine ARN.fin (by first | (simp (disch := omega) only [go_sem, w64, wU, hs1, q0, q1, q2, q3, hr, hwp, hwm, hb8, hne] <;> exact rfl) | exact rfl) ?_
            refine AW.condT (by simp (maxSteps := 1000000) only [go_sem, hs1, q0, q1, q2, q3, hr, hwp, hwm, hb8, hne] <;> exact rfl) ?_
            refine AW.skip ?_
            show AW _ _ _ _ _
            refine AW.seq ?_
            refine AW.block ?_
            refine AW.regDS follows (by kernel_rfl) ?_
            refine ARE.run1S (by simp (maxSteps := 1000000) only [go_sem, hs1, q0, q1, q2, q3, hr, hwp, hwm, hb8, hne] <;> exact rfl) ?_
            refine ARE.fin [0, 0, 3, 7, 0, 0, 32, 112, 240, 511] _ (by kernel_rfl) (by simp (maxSteps := 1000000) only [go_sem, hs1, q0, q1, q2, q3, hr, hwp, hwm, hb8, hne] <;> exact rfl) (by kernel_rfl) (by first | (simp (disch := omega) only [go_sem, w64, wU, hs1, q0, q1, q2, q3, hr, hwp, hwm, hb8, hne] <;> exact rfl) | exact rfl) ?_
            refine AW.condF (by simp (maxSteps := 1000000) only [go_sem, hs1, q0, q1, q2, q3, hr, hwp, hwm, hb8, hne] <;> exact rfl) ?_
            refine AW.skip ?_
            show AW _ _ _ _ _
            refine AW.reg rfl ?_
            refine ARN.run1S (by simp (maxSteps := 1000000) only [go_sem, hs1, q0, q1, q2, q3, hr, hwp, hwm, hb8, hne] <;> exact rfl) ?_
            refine ARN.fin1 (by first | (simp (disch := omega) only [go_sem, w64, wU, hs1, q0, q1, q2, q3, hr, hwp, hwm, hb8, hne] <;> exact rfl) | exact rfl) ?_
            show ARounds _ _ _ _ _ _
            refine ARounds.mk ?_
            refine AW.seq ?_
            refine AW.regS rfl ?_
            refine ARN.run1S (by simp (maxSteps := 1000000) only [go_sem, hs1, q0, q1, q2, q3, hr, hwp, hwm, hb8, hne] <;> exact rfl) ?_
            refine ARN.fin (by first | (simp (disch := omega) only [go_sem, w64, wU, hs1, q0, q1, q2, q3, hr, hwp, hwm, hb8, hne] <;> exact rfl) | exact rfl) ?_
            refine AW.condF (by simp (maxSteps := 1000000) only [go_sem, hs1, q0, q1, q2, q3, hr, hwp, hwm, hb8, hne] <;> exact rfl) ?_
            refine AW.exit ?_
            show AW _ _ _ _ _
            refine AW.regS rfl ?_
            refine ARN.run1S (by simp (maxSteps := 1000000) only [go_sem, hs1, q0, q1, q2, q3, hr, hwp, hwm, hb8, hne] <;> exact rfl) ?_
            refine ARN.fin (by first | (simp (disch := omega) only [go_sem, w64, wU, hs1, q0, q1, q2, q3, hr, hwp, hwm, hb8, hne] <;> exact rfl) | exact rfl) ?_
            refine icK.finQ rfl (by simp (maxSteps := 1000000) only [go_sem, hs1, q0, q1, q2, q3, hr, hwp, hwm, hb8, hne] <;> exact rfl) (by simp (maxSteps := 1000000) only [go_sem, hs1, q0, q1, q2, q3, hr, hwp, hwm, hb8, hne] <;> exact rfl) ?_
            refine AWL.runG (by simp (maxSteps := 1000000) only [go_sem, hs1, q0, q1, q2, q3, hr, hwp, hwm, hb8, hne] <;> exact rfl) ?_
            refine AWL.fin (by first | (simp (disch := omega) only [go_sem, w64, wU, hs1, q0, q1, q2, q3, hr, hwp, hwm, hb8, hne] <;> exact rfl) | exact rfl) ?_
            refine retK.fin rfl (by simp (maxSteps := 1000000) only [go_sem, hs1, q0, q1, q2, q3, hr, hwp, hwm, hb8, hne] <;> exact rfl) (by simp (maxSteps := 1000000) only [go_sem, hs1, q0, q1, q2, q3, hr, hwp, hwm, hb8, hne] <;> exact rfl) ?_
            rw [next_is q0 q1 hI (by simpa using hc1), hc3, nextI_6, if_neg (fun e : pc + 1 = m => hs8 e.symm)]; exact Sub.refl _
        · try simp only [decide_eq_true_eq, decide_eq_false_iff_not, Bool.or_eq_true, Bool.or_eq_false_iff, Bool.and_eq_true, Bool.and_eq_false_imp, Bool.not_eq_true', Bool.not_eq_false'] at hc3
          refine AW.seq ?_
          refine AW.regS rfl ?_
          refine ARN.run1S (by simp (maxSteps := 1000000) only [go_sem, hs1, q0, q1, q2, q3, hr, hwp] <;> exact rfl) ?_
          refine ARN.fin (by first | (simp (disch := omega) only [go_sem, w64, wU, hs1, q0, q1, q2, q3, hr, hwp] <;> exact rfl) | exact rfl) ?_
          refine AW.cond (by simp (maxSteps := 1000000) only [go_sem, hs1, q0, q1, q2, q3, hr, hwp] <;> exact rfl) (fun hc8 => ?_) (fun hc8 => ?_)
          · try simp only [decide_eq_true_eq, decide_eq_false_iff_not, Bool.or_eq_true, Bool.or_eq_false_iff, Bool.and_eq_true, Bool.and_eq_false_imp, Bool.not_eq_true', Bool.not_eq_false'] at hc8
            have h14 : op = 14 := hc8
            refine AW.skip ?_
            show AW _ _ _ _ _
            refine AW.condT (by simp (maxSteps := 1000000) only [go_sem, hs1, q0, q1, q2, q3, hr, hwp, h14] <;> exact rfl) ?_
            refine AW.regS rfl ?_
            refine ARN.run1S (by simp (maxSteps := 1000000) only [go_sem, hs1, q0, q1, q2, q3, hr, hwp, h14] <;> exact rfl) ?_
            refine ARN.fin (by first | (simp (disch := omega) only [go_sem, w64, wU, hs1, q0, q1, q2, q3, hr, hwp, h14] <;> exact rfl) | exact rfl) ?_
            refine retK.fin rfl (by simp (maxSteps := 1000000) only [go_sem, hs1, q0, q1, q2, q3, hr, hwp, h14] <;> exact rfl) (by simp (maxSteps := 1000000) only [go_sem, hs1, q0, q1, q2, q3, hr, hwp, h14] <;> exact rfl) ?_
            rw [next_is q0 q1 hI (by simpa using hc1), h14, nextI_14]; exact Sub.nil0 0 1 true
          · try simp only [decide_eq_true_eq, decide_eq_false_iff_not, Bool.or_eq_true, Bool.or_eq_false_iff, Bool.and_eq_true, Bool.and_eq_false_imp, Bool.not_eq_true', Bool.not_eq_false'] at hc8
            refine AW.reg rfl ?_
            refine ARN.run1S (by simp (maxSteps := 1000000) only [go_sem, hs1, q0, q1, q2, q3, hr, hwp] <;> exact rfl) ?_
            refine ARN.fin1 (by first | (simp (disch := omega) only [go_sem, w64, wU, hs1, q0, q1, q2, q3, hr, hwp] <;> exact rfl) | exact rfl) ?_
            show AW _ _ _ _ _
            refine AW.cond (by simp (maxSteps := 1000000) only [go_sem, hs1, q0, q1, q2, q3, hr, hwp] <;> exact rfl) (fun hc10 => ?_) (fun hc10 => ?_)
            · try simp only [decide_eq_true_eq, decide_eq_false_iff_not, Bool.or_eq_true, Bool.or_eq_false_iff, Bool.and_eq_true, Bool.and_eq_false_imp, Bool.not_eq_true', Bool.not_eq_false'] at hc10
              refine AW.regS rfl ?_
              refine ARN.run1S (by simp (maxSteps := 1000000) only [go_sem, hs1, q0, q1, q2, q3, hr, hwp] <;> exact rfl) ?_
              refine ARN.fin (by first | (simp (disch := omega) only [go_sem, w64, wU, hs1, q0, q1, q2, q3, hr, hwp] <;> exact rfl) | exact rfl) ?_
              refine retK.fin rfl (by simp (maxSteps := 1000000) only [go_sem, hs1, q0, q1, q2, q3, hr, hwp] <;> exact rfl) (by simp (maxSteps := 1000000) only [go_sem, hs1, q0, q1, q2, q3, hr, hwp] <;> exact rfl) ?_
              rw [next_is q0 q1 hI (by simpa using hc1), hc10, nextI_15]; exact Sub.nil0 0 1 true
            · try simp only [decide_eq_true_eq, decide_eq_false_iff_not, Bool.or_eq_true, Bool.or_eq_false_iff, Bool.and_eq_true, Bool.and_eq_false_imp, Bool.not_eq_true', Bool.not_eq_false'] at hc10
              refine AW.skip ?_
              show AW _ _ _ _ _
              refine AW.regS rfl ?_
              refine ARN.run1S (by simp (maxSteps := 1000000) only [go_sem, hs1, q0, q1, q2, q3, hr, hwp] <;> exact rfl) ?_
              refine ARN.fin (by first | (simp (disch := omega) only [go_sem, w64, wU, hs1, q0, q1, q2, q3, hr, hwp] <;> exact rfl) | exact rfl) ?_
              refine retK.fin rfl (by simp (maxSteps := 1000000) only [go_sem, hs1, q0, q1, q2, q3, hr, hwp] <;> exact rfl) (by simp (maxSteps := 1000000) only [go_sem, hs1, q0, q1, q2, q3, hr, hwp] <;> exact rfl) ?_
              rw [next_is q0 q1 hI (by simpa using hc1), nextI_o hc2 hc3 hc8 hc10]; exact Sub.full 1 [[.int .i64 (pc + 1)]] true
  · have q4 : or (decide (pc < 0)) (decide ((code.length : Int) ≤ pc)) = true := (by simp; omega); rcases Int.lt_or_le pc 0 with q5 | q5
    all_goals
      first | (have q6 : (0 ≤ pc) = False := eq_false (by omega)) | (have q6 : (code.map inR)[pc.toNat]? = none := in_none q5 hs1)
      have hb1 := decide_eq_false hs1
      refine AW.regS rfl ?_
      refine ARN.run1S (by simp (maxSteps := 1000000) only [go_sem, hb1, q4, q6] <;> exact rfl) ?_
      first | (refine ARN.pcall (fun hp => c49 op a b c m 0 code.length hm) rfl (by simp (maxSteps := 1000000) only [go_sem, hb1, q4, q6] <;> exact rfl) (by simp only [go_sem]) (by simp (maxSteps := 1000000) only [go_sem, hb1, q4, q6] <;> exact rfl) ?_) | skip
      refine ARN.run1S (by simp (maxSteps := 1000000) only [go_sem, hb1, q4, q6] <;> exact rfl) ?_
      refine ARN.fin (by first | (simp (disch := omega) only [go_sem, w64, wU, hb1, q4, q6] <;> exact rfl) | exact rfl) ?_
      refine AW.condT (by simp (maxSteps := 1000000) only [go_sem, hb1, q4, q6] <;> exact rfl) ?_
      refine AW.regR rfl (by simp (maxSteps := 1000000) only [go_sem, hb1, q4, q6] <;> exact rfl) (by first | (simp (disch := omega) only [go_sem, w64, wU, hb1, q4, q6] <;> exact rfl) | exact rfl) ?_
      refine retK.fin rfl (by simp (maxSteps := 1000000) only [go_sem, hb1, q4, q6] <;> exact rfl) (by simp (maxSteps := 1000000) only [go_sem, hb1, q4, q6] <;> exact rfl) ?_
      rw [next_out hs1]; exact Sub.nil0 0 1 true
end Go.Ab.Try
