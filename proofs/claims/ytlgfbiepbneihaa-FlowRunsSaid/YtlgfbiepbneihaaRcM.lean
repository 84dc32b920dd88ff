/- Where a code may go: the law of runs. -/
import Derived.Test.YtlgfbiepbneihaaRcK
namespace Go.Ab.Try
open Go.Proofs Go.Ab
set_option linter.unusedVariables false
set_option linter.unusedSimpArgs false
set_option linter.unnecessarySimpa false
set_option maxRecDepth 100000
theorem c4 (code : List Ins) (inp D : List Int) (l : List Pn) (e n fuel most : Int) (hc : OkC code) (hii : OkI inp) (hD : ∀ x ∈ D, W64 x) (hl : ∀ p ∈ l, W64 p.2.1) : PC Try.prog 4 [playV code inp D l e n fuel most] (.bool true) := by
  refine PC.start 110 Try.call4 Try.func4 rfl Try.ntmps4 Try.results4 (by simp only [go_sem]; exact rfl) fun z hz => ?_
  refine AW.regR rfl (by simp (maxSteps := 1000000) only [go_sem] <;> exact rfl) (by first | (simp (disch := omega) only [go_sem, w64, wU] <;> exact rfl) | exact rfl) ?_
  refine AW.seq ?_
  refine AW.regS rfl ?_
  refine ARN.run1 (by simp (maxSteps := 1000000) only [go_sem] <;> exact rfl) ?_
  refine ARN.pcall (fun hp => c25 D l e) rfl (by simp (maxSteps := 1000000) only [go_sem] <;> exact rfl) (by simp only [go_sem]) (by simp (maxSteps := 1000000) only [go_sem] <;> exact rfl) ?_
  refine ARN.run1 (by simp (maxSteps := 1000000) only [go_sem] <;> exact rfl) ?_
  refine ARN.fin (by first | (simp (disch := omega) only [go_sem, w64, wU] <;> exact rfl) | exact rfl) ?_
  refine AW.cond (by simp (maxSteps := 1000000) only [go_sem] <;> exact rfl) (fun hc1 => ?_) (fun hc1 => ?_)
  · try simp only [decide_eq_true_eq, decide_eq_false_iff_not, Bool.or_eq_true, Bool.or_eq_false_iff, Bool.and_eq_true, Bool.and_eq_false_imp, Bool.not_eq_true', Bool.not_eq_false'] at hc1
    refine AW.regS rfl ?_
    refine ARN.pcall (fun hp => c13) rfl (by simp (maxSteps := 1000000) only [go_sem] <;> exact rfl) (by simp only [go_sem]) (by simp (maxSteps := 1000000) only [go_sem] <;> exact rfl) ?_
    refine ARN.run1 (by simp (maxSteps := 1000000) only [go_sem] <;> exact rfl) ?_
    refine ARN.fin (by first | (simp (disch := omega) only [go_sem, w64, wU] <;> exact rfl) | exact rfl) ?_
    refine retK.fin rfl (by simp (maxSteps := 1000000) only [go_sem] <;> exact rfl) (by simp (maxSteps := 1000000) only [go_sem] <;> exact rfl) (.of ?_)
    rfl
  · try simp only [decide_eq_true_eq, decide_eq_false_iff_not, Bool.or_eq_true, Bool.or_eq_false_iff, Bool.and_eq_true, Bool.and_eq_false_imp, Bool.not_eq_true', Bool.not_eq_false'] at hc1
    have hln : (reachL code zeS).length = code.length + 1 := reachL_len
    have hw1 : IntKind.i64.wrap ((code.length : Int) + 1) = (code.length : Int) + 1 := w64 (by omega) (by omega)
    have heq : (((code.length + 1 : Nat) : Int) = (code.length : Int) + 1) = True := eq_true (by omega)
    have hs : OkS (startS D l e n) 60 := start_ok hD hl hc1.2
    refine AW.skip ?_
    show AW _ _ _ _ _
    refine AW.regS rfl ?_
    refine ARN.run1 (by simp (maxSteps := 1000000) only [go_sem, hln, hw1, heq, hs] <;> exact rfl) ?_
    refine ARN.pcall (fun hp => c18 code hc (by omega)) rfl (by simp (maxSteps := 1000000) only [go_sem, hln, hw1, heq, hs] <;> exact rfl) (by simp only [go_sem]) (by simp (maxSteps := 1000000) only [go_sem, hln, hw1, heq, hs] <;> exact rfl) ?_
    refine ARN.run1 (by simp (maxSteps := 1000000) only [go_sem, hln, hw1, heq, hs] <;> exact rfl) ?_
    refine ARN.fin (by first | (simp (disch := omega) only [go_sem, w64, wU, hln, hw1, heq, hs] <;> exact rfl) | exact rfl) ?_
    refine AW.seq ?_
    refine AW.regR rfl (by simp (maxSteps := 1000000) only [go_sem, hln, hw1, heq, hs] <;> exact rfl) (by first | (simp (disch := omega) only [go_sem, w64, wU, hln, hw1, heq, hs] <;> exact rfl) | exact rfl) ?_
    refine AW.condF (by simp (maxSteps := 1000000) only [go_sem, hln, hw1, heq, hs] <;> exact rfl) ?_
    refine AW.skip ?_
    show AW _ _ _ _ _
    refine AW.regS rfl ?_
    refine ARN.run1 (by simp (maxSteps := 1000000) only [go_sem, hln, hw1, heq, hs] <;> exact rfl) ?_
    refine ARN.pcall (fun hp => c26 D l e n) rfl (by simp (maxSteps := 1000000) only [go_sem, hln, hw1, heq, hs] <;> exact rfl) (by simp only [go_sem]) (by simp (maxSteps := 1000000) only [go_sem, hln, hw1, heq, hs] <;> exact rfl) ?_
    refine ARN.run1 (by simp (maxSteps := 1000000) only [go_sem, hln, hw1, heq, hs] <;> exact rfl) ?_
    refine ARN.fin (by first | (simp (disch := omega) only [go_sem, w64, wU, hln, hw1, heq, hs] <;> exact rfl) | exact rfl) ?_
    refine AW.seq ?_
    refine AW.regR rfl (by simp (maxSteps := 1000000) only [go_sem, hln, hw1, heq, hs] <;> exact rfl) (by first | (simp (disch := omega) only [go_sem, w64, wU, hln, hw1, heq, hs] <;> exact rfl) | exact rfl) ?_
    refine AW.block ?_
    refine AW.loopV (α := (Int) × (St)) (fun ((i, u) : (Int) × (St)) => [(5, .pv (.int .i64 i))]) (fun ((i, u) : (Int) × (St)) => [.box (plA code inp D l e n fuel most), .box (stA u)]) (fun ((i, u) : (Int) × (St)) => (OkS u (60 + i.toNat)) ∧ (0 ≤ i) ∧ (i ≤ 200) ∧ (RunI code u i)) (fun ((i, u) : (Int) × (St)) => (200 - i).toNat) (0, startS D l e n) ?_ ?_ ?_
    · exact ⟨hs, by omega, by omega, .start⟩
    · refine Wk.to [] [0, 1] hz (by decide) ?_ ?_
      · simp (maxSteps := 1000000) (disch := omega) only [go_sem, w64, wU, hln, hw1, heq, hs]
      · simp (maxSteps := 1000000) (disch := omega) only [go_sem, w64, wU, hln, hw1, heq, hs]
    · rintro ⟨i, u⟩ hF _ ht _ hh
      simp only [updT, go_sem] at ht hh
      subst ht; subst hh
      obtain ⟨h2, h5, h6, h7⟩ := hF
      refine AW.seq ?_
      refine AW.regR rfl (by simp (maxSteps := 1000000) only [go_sem, hln, hw1, heq, hs] <;> exact rfl) (by first | (simp (disch := omega) only [go_sem, w64, wU, hln, hw1, heq, hs] <;> exact rfl) | exact rfl) ?_
      refine AW.cond (by simp (maxSteps := 1000000) only [go_sem, hln, hw1, heq, hs] <;> exact rfl) (fun hc3 => ?_) (fun hc3 => ?_)
      · try simp only [decide_eq_true_eq, decide_eq_false_iff_not, Bool.or_eq_true, Bool.or_eq_false_iff, Bool.and_eq_true, Bool.and_eq_false_imp, Bool.not_eq_true', Bool.not_eq_false'] at hc3
        refine AW.skip ?_
        show AW _ _ _ _ _
        refine AW.seq ?_
        refine AW.block ?_
        refine AW.seq ?_
        obtain ⟨⟨o0, o1⟩, o2⟩ := h7.pc hc (by omega) hc3.2
        have q1 : 0 ≤ u.pc := o0
        have q2 : decide (u.pc < 0) = false := decide_eq_false (by omega)
        have q3 : decide ((code.length : Int) < u.pc) = false := decide_eq_false (by omega)
        have hra : ((reachL code zeS).map boR)[u.pc.toNat]? = some [.bool true] := by rw [← o2]; exact reach_at2 ⟨o0, o1⟩
        have qlt : (u.pc < ((code.length + 1 : Nat) : Int)) = True := eq_true (by omega)
        refine AW.regR rfl (by simp (maxSteps := 1000000) only [go_sem, hln, hw1, heq, hs, q1, q2, q3, hra, qlt] <;> exact rfl) (by first | (simp (disch := omega) only [go_sem, w64, wU, hln, hw1, heq, hs, q1, q2, q3, hra, qlt] <;> exact rfl) | exact rfl) ?_
        refine AW.condF (by simp (maxSteps := 1000000) only [go_sem, hln, hw1, heq, hs, q1, q2, q3, hra, qlt] <;> exact rfl) ?_
        refine AW.skip ?_
        show AW _ _ _ _ _
        refine AW.regS rfl ?_
        refine ARN.run1 (by simp (maxSteps := 1000000) only [go_sem, hln, hw1, heq, hs, q1, q2, q3, hra, qlt] <;> exact rfl) ?_
        refine ARN.pcall (fun hp => c27 code u inp most _ hc (by omega) h2 (by omega) (by omega) hii) rfl (by simp (maxSteps := 1000000) only [go_sem, hln, hw1, heq, hs, q1, q2, q3, hra, qlt] <;> exact rfl) (by simp only [go_sem]) (by simp (maxSteps := 1000000) only [go_sem, hln, hw1, heq, hs, q1, q2, q3, hra, qlt] <;> exact rfl) ?_
        refine ARN.run1 (by simp (maxSteps := 1000000) only [go_sem, hln, hw1, heq, hs, q1, q2, q3, hra, qlt] <;> exact rfl) ?_
        refine ARN.fin (by first | (simp (disch := omega) only [go_sem, w64, wU, hln, hw1, heq, hs, q1, q2, q3, hra, qlt] <;> exact rfl) | exact rfl) ?_
        refine AW.seq ?_
        refine AW.regDS follows (by kernel_rfl) ?_
        refine ARE.run1 (by simp (maxSteps := 1000000) only [go_sem, hln, hw1, heq, hs, q1, q2, q3, hra, qlt] <;> exact rfl) ?_
        refine ARE.pcall (fun hp => c15 code u.pc hc (by omega)) rfl (by simp (maxSteps := 1000000) only [go_sem, hln, hw1, heq, hs, q1, q2, q3, hra, qlt] <;> exact rfl) (by simp only [go_sem]) (by simp (maxSteps := 1000000) only [go_sem, hln, hw1, heq, hs, q1, q2, q3, hra, qlt] <;> exact rfl) ?_
        refine ARE.run1 (by simp (maxSteps := 1000000) only [go_sem, hln, hw1, heq, hs, q1, q2, q3, hra, qlt] <;> exact rfl) ?_
        refine ARE.pcall (fun hp => c28 (nextS code u.pc) false (stepS code inp most u).pc (by have := next_len code u.pc; omega)) rfl (by simp (maxSteps := 1000000) only [go_sem, hln, hw1, heq, hs, q1, q2, q3, hra, qlt] <;> exact rfl) (by simp only [go_sem]) (by simp (maxSteps := 1000000) only [go_sem, hln, hw1, heq, hs, q1, q2, q3, hra, qlt] <;> exact rfl) ?_
        refine ARE.run1 (by simp (maxSteps := 1000000) only [go_sem, hln, hw1, heq, hs, q1, q2, q3, hra, qlt] <;> exact rfl) ?_
        refine ARE.fin [0, 1, 3, 7, 15, 31, 15, 79, 255, 15, 527, 2047, 4095, 8191] _ (by kernel_rfl) (by simp (maxSteps := 1000000) only [go_sem, hln, hw1, heq, hs, q1, q2, q3, hra, qlt] <;> exact rfl) (by kernel_rfl) (by first | (simp (disch := omega) only [go_sem, w64, wU, hln, hw1, heq, hs, q1, q2, q3, hra, qlt] <;> exact rfl) | exact rfl) ?_
        refine AW.cond (by simp (maxSteps := 1000000) only [go_sem, hln, hw1, heq, hs, q1, q2, q3, hra, qlt] <;> exact rfl) (fun hc5 => ?_) (fun hc5 => ?_)
        · skip
          exfalso; simp at hc5; exact hc5.2 (next_pc hc (by omega) hc3.2 hc5.1)
        · skip
          refine AW.skip ?_
          show AW _ _ _ _ _
          refine AW.regR1 rfl (by simp (maxSteps := 1000000) only [go_sem, hln, hw1, heq, hs, q1, q2, q3, hra, qlt] <;> exact rfl) (by first | (simp (disch := omega) only [go_sem, w64, wU, hln, hw1, heq, hs, q1, q2, q3, hra, qlt] <;> exact rfl) | exact rfl) ?_
          show AW _ _ _ _ _
          refine AW.regR1 rfl (by simp (maxSteps := 1000000) only [go_sem, hln, hw1, heq, hs, q1, q2, q3, hra, qlt] <;> exact rfl) (by first | (simp (disch := omega) only [go_sem, w64, wU, hln, hw1, heq, hs, q1, q2, q3, hra, qlt] <;> exact rfl) | exact rfl) ?_
          refine ⟨((i + 1), stepS code inp most u), ?_, ?_, ?_⟩
          · (try dsimp only); omega
          · exact ⟨by rw [show (i + 1).toNat = i.toNat + 1 by omega, ← Nat.add_assoc]; exact step_ok h2 hc hii, by omega, by omega, h7.next hc (by omega) hc3.2 (by omega)⟩
          · refine Wk.to [] [0, 1] hz (by decide) ?_ ?_
            · simp (maxSteps := 1000000) (disch := omega) only [go_sem, w64, wU, hln, hw1, heq, hs, q1, q2, q3, hra, qlt]
            · simp (maxSteps := 1000000) (disch := omega) only [go_sem, w64, wU, hln, hw1, heq, hs, q1, q2, q3, hra, qlt]
      · try simp only [decide_eq_true_eq, decide_eq_false_iff_not, Bool.or_eq_true, Bool.or_eq_false_iff, Bool.and_eq_true, Bool.and_eq_false_imp, Bool.not_eq_true', Bool.not_eq_false'] at hc3
        refine AW.exit ?_
        show AW _ _ _ _ _
        refine AW.regS rfl ?_
        refine ARN.run1 (by simp (maxSteps := 1000000) only [go_sem, hln, hw1, heq, hs] <;> exact rfl) ?_
        refine ARN.pcall (fun hp => c23 code hc (by omega)) rfl (by simp (maxSteps := 1000000) only [go_sem, hln, hw1, heq, hs] <;> exact rfl) (by simp only [go_sem]) (by simp (maxSteps := 1000000) only [go_sem, hln, hw1, heq, hs] <;> exact rfl) ?_
        refine ARN.run1 (by simp (maxSteps := 1000000) only [go_sem, hln, hw1, heq, hs] <;> exact rfl) ?_
        refine ARN.pcall (fun hp => c13) rfl (by simp (maxSteps := 1000000) only [go_sem, hln, hw1, heq, hs] <;> exact rfl) (by simp only [go_sem]) (by simp (maxSteps := 1000000) only [go_sem, hln, hw1, heq, hs] <;> exact rfl) ?_
        refine ARN.run1 (by simp (maxSteps := 1000000) only [go_sem, hln, hw1, heq, hs] <;> exact rfl) ?_
        refine ARN.fin (by first | (simp (disch := omega) only [go_sem, w64, wU, hln, hw1, heq, hs] <;> exact rfl) | exact rfl) ?_
        refine retK.fin rfl (by simp (maxSteps := 1000000) only [go_sem, hln, hw1, heq, hs] <;> exact rfl) (by simp (maxSteps := 1000000) only [go_sem, hln, hw1, heq, hs] <;> exact rfl) (.of ?_)
        have key : (loopB code || !decide (u.en = 0) && decide (u.steps ≤ (code.length : Int) + 1)) = true := (Bool.eq_false_or_eq_true (loopB code)).elim (fun hb => by rw [hb]; rfl) (fun hb => by rw [hb]; (have h8 := h7.fin hc (by omega) (fun q => hc3 q.1 q.2) (by omega) hb); simp [h8.1, h8.2])
        first | exact congrArg PV.bool key | (simp [key])
end Go.Ab.Try
