/- The reference's machine: a run; sameness; which are few. -/
import Derived.Test.YtlgfbiepbneihaaVmF
namespace Go.Ab.Try
open Go.Proofs Go.Ab
set_option linter.unusedVariables false
set_option linter.unusedSimpArgs false
set_option linter.unnecessarySimpa false
set_option maxRecDepth 100000
theorem c37 (code : List Ins) (s : St) (inp : List Int) (fuel most : Int) (N : Nat) (hc : OkC code) (hL : code.length ≤ 100) (hs : OkS s N) (hN : N + (fuel - s.steps).toNat ≤ 1000) (hi : inp.length ≤ 100) (hii : OkI inp) (hf : fuel ≤ 9223372036854775807) (h64 : -9223372036854775808 ≤ s.steps) : PC Try.prog 37 [.lst false 5 (code.map inR), stV s, .lst false 1 (inp.map byR), .int .i64 fuel, .int .i64 most] (stV (runS code inp fuel most s)) := by
  refine PC.start 30 Try.call37 Try.func37 rfl Try.ntmps37 Try.results37 (by simp only [go_sem]; exact rfl) fun z hz => ?_
  refine AW.regR rfl (by simp (maxSteps := 1000000) only [go_sem] <;> exact rfl) (by first | (simp (disch := omega) only [go_sem, w64, wU] <;> exact rfl) | exact rfl) ?_
  refine AW.seq ?_
  refine AW.block ?_
  refine AW.loopV (α := (St)) (fun (u : (St)) => []) (fun (u : (St)) => [.box (stA u), .box zA]) (fun (u : (St)) => (runS code inp fuel most s = runS code inp fuel most u) ∧ (OkS u (N + (u.steps - s.steps).toNat)) ∧ (s.steps ≤ u.steps) ∧ (s.steps ≤ fuel → u.steps ≤ fuel)) (fun (u : (St)) => (fuel - u.steps).toNat) s ?_ ?_ ?_
  · exact ⟨rfl, by rw [show s.steps - s.steps = 0 by omega]; exact hs, by omega, fun h => h⟩
  · refine Wk.to [] [0, 1] hz (by decide) ?_ ?_
    · simp (maxSteps := 1000000) (disch := omega) only [go_sem, w64, wU]
    · simp (maxSteps := 1000000) (disch := omega) only [go_sem, w64, wU]
  · rintro u hF _ ht _ hh
    simp only [updT, go_sem] at ht hh
    subst ht; subst hh
    obtain ⟨h1, h2, h3, h4⟩ := hF
    refine AW.seq ?_
    refine AW.regR rfl (by simp (maxSteps := 1000000) only [go_sem] <;> exact rfl) (by first | (simp (disch := omega) only [go_sem, w64, wU] <;> exact rfl) | exact rfl) ?_
    refine AW.cond (by simp (maxSteps := 1000000) only [go_sem] <;> exact rfl) (fun hc1 => ?_) (fun hc1 => ?_)
    · try simp only [decide_eq_true_eq, decide_eq_false_iff_not, Bool.or_eq_true, Bool.or_eq_false_iff, Bool.and_eq_true, Bool.and_eq_false_imp, Bool.not_eq_true', Bool.not_eq_false'] at hc1
      have hro : OkS (stepS code inp most u) (N + ((stepS code inp most u).steps - s.steps).toNat) ∧ (stepS code inp most u).steps = u.steps + 1 := run_ok h2 hc hii hc1.1 h3 (by omega) (by omega)
      refine AW.skip ?_
      show AW _ _ _ _ _
      refine AW.block ?_
      refine AW.reg rfl ?_
      refine ARN.run1 (by simp (maxSteps := 1000000) only [go_sem, hro] <;> exact rfl) ?_
      refine ARN.pcall (fun hp => c27 code u inp most _ hc hL h2 (by omega) hi hii) rfl (by simp (maxSteps := 1000000) only [go_sem, hro] <;> exact rfl) (by simp only [go_sem]) (by simp (maxSteps := 1000000) only [go_sem, hro] <;> exact rfl) ?_
      refine ARN.run1 (by simp (maxSteps := 1000000) only [go_sem, hro] <;> exact rfl) ?_
      refine ARN.fin1 (by first | (simp (disch := omega) only [go_sem, w64, wU, hro] <;> exact rfl) | exact rfl) ?_
      refine ⟨(stepS code inp most u), ?_, ?_, ?_⟩
      · have := hro.2; dsimp only; omega
      · exact ⟨h1.trans (run_step hc1.1 hc1.2 hf (by omega)), hro.1, by have := hro.2; omega, fun _ => by have := hro.2; omega⟩
      · refine Wk.to [] [0, 1] hz (by decide) ?_ ?_
        · simp (maxSteps := 1000000) (disch := omega) only [go_sem, w64, wU, hro]
        · simp (maxSteps := 1000000) (disch := omega) only [go_sem, w64, wU, hro]
    · try simp only [decide_eq_true_eq, decide_eq_false_iff_not, Bool.or_eq_true, Bool.or_eq_false_iff, Bool.and_eq_true, Bool.and_eq_false_imp, Bool.not_eq_true', Bool.not_eq_false'] at hc1
      refine AW.exit ?_
      show AW _ _ _ _ _
      refine AW.seq ?_
      refine AW.regR rfl (by simp (maxSteps := 1000000) only [go_sem] <;> exact rfl) (by first | (simp (disch := omega) only [go_sem, w64, wU] <;> exact rfl) | exact rfl) ?_
      refine AW.cond (by simp (maxSteps := 1000000) only [go_sem] <;> exact rfl) (fun hc2 => ?_) (fun hc2 => ?_)
      · try simp only [decide_eq_true_eq, decide_eq_false_iff_not, Bool.or_eq_true, Bool.or_eq_false_iff, Bool.and_eq_true, Bool.and_eq_false_imp, Bool.not_eq_true', Bool.not_eq_false'] at hc2
        refine AW.regR1 rfl (by simp (maxSteps := 1000000) only [go_sem] <;> exact rfl) (by first | (simp (disch := omega) only [go_sem, w64, wU] <;> exact rfl) | exact rfl) ?_
        show AW _ _ _ _ _
        refine AW.regR rfl (by simp (maxSteps := 1000000) only [go_sem] <;> exact rfl) (by first | (simp (disch := omega) only [go_sem, w64, wU] <;> exact rfl) | exact rfl) ?_
        refine retK.fin rfl (by simp (maxSteps := 1000000) only [go_sem] <;> exact rfl) (by simp (maxSteps := 1000000) only [go_sem] <;> exact rfl) (.of ?_)
        rw [h1, run_end (fun q => by have := hc1 q.1; omega), if_pos hc2]; rfl
      · try simp only [decide_eq_true_eq, decide_eq_false_iff_not, Bool.or_eq_true, Bool.or_eq_false_iff, Bool.and_eq_true, Bool.and_eq_false_imp, Bool.not_eq_true', Bool.not_eq_false'] at hc2
        refine AW.skip ?_
        show AW _ _ _ _ _
        refine AW.regR rfl (by simp (maxSteps := 1000000) only [go_sem] <;> exact rfl) (by first | (simp (disch := omega) only [go_sem, w64, wU] <;> exact rfl) | exact rfl) ?_
        refine retK.fin rfl (by simp (maxSteps := 1000000) only [go_sem] <;> exact rfl) (by simp (maxSteps := 1000000) only [go_sem] <;> exact rfl) (.of ?_)
        rw [h1, run_end (fun q => by have := hc1 q.1; omega), if_neg hc2]; rfl
theorem c38 (s t : St) (h1 : s.C.length ≤ 1000000) (h2 : t.C.length ≤ 1000000) (h3 : Sm s.D s.l) (h4 : Sm t.D t.l) : PC Try.prog 38 [stV s, stV t] (.bool (sameS s t)) := by
  refine PC.start 66 Try.call38 Try.func38 rfl Try.ntmps38 Try.results38 (by simp only [go_sem]; exact rfl) fun z hz => ?_
  refine AW.regR rfl (by simp (maxSteps := 1000000) only [go_sem] <;> exact rfl) (by first | (simp (disch := omega) only [go_sem, w64, wU] <;> exact rfl) | exact rfl) ?_
  refine AW.regS rfl ?_
  refine ARN.run1 (by simp (maxSteps := 1000000) only [go_sem] <;> exact rfl) ?_
  refine ARN.pcall (fun hp => c66 s.C t.C false false (by omega) (by omega)) rfl (by simp (maxSteps := 1000000) only [go_sem] <;> exact rfl) (by simp only [go_sem]) (by simp (maxSteps := 1000000) only [go_sem] <;> exact rfl) ?_
  refine ARN.run1 (by simp (maxSteps := 1000000) only [go_sem] <;> exact rfl) ?_
  refine ARN.pcall (fun hp => c39 s.D t.D s.l t.l s.e t.e h3 h4) rfl (by simp (maxSteps := 1000000) only [go_sem] <;> exact rfl) (by simp only [go_sem]) (by simp (maxSteps := 1000000) only [go_sem] <;> exact rfl) ?_
  refine ARN.run1 (by simp (maxSteps := 1000000) only [go_sem] <;> exact rfl) ?_
  refine ARN.fin (by first | (simp (disch := omega) only [go_sem, w64, wU] <;> exact rfl) | exact rfl) ?_
  refine retK.fin rfl (by simp (maxSteps := 1000000) only [go_sem] <;> exact rfl) (by simp (maxSteps := 1000000) only [go_sem] <;> exact rfl) (.of ?_)
  rfl
theorem c43 (s : St) : PC Try.prog 43 [stV s] (.int .i64 (fewS s)) := by
  refine PC.start 13 Try.call43 Try.func43 rfl Try.ntmps43 Try.results43 (by simp only [go_sem]; exact rfl) fun z hz => ?_
  refine AW.regR rfl (by simp (maxSteps := 1000000) only [go_sem] <;> exact rfl) (by first | (simp (disch := omega) only [go_sem, w64, wU] <;> exact rfl) | exact rfl) ?_
  refine AW.seq ?_
  refine AW.regS rfl ?_
  refine ARN.run1 (by simp (maxSteps := 1000000) only [go_sem] <;> exact rfl) ?_
  refine ARN.pcall (fun hp => c25 s.D s.l s.e) rfl (by simp (maxSteps := 1000000) only [go_sem] <;> exact rfl) (by simp only [go_sem]) (by simp (maxSteps := 1000000) only [go_sem] <;> exact rfl) ?_
  refine ARN.run1 (by simp (maxSteps := 1000000) only [go_sem] <;> exact rfl) ?_
  refine ARN.fin (by first | (simp (disch := omega) only [go_sem, w64, wU] <;> exact rfl) | exact rfl) ?_
  refine AW.cond (by simp (maxSteps := 1000000) only [go_sem] <;> exact rfl) (fun hc1 => ?_) (fun hc1 => ?_)
  · try simp only [decide_eq_true_eq, decide_eq_false_iff_not, Bool.or_eq_true, Bool.or_eq_false_iff, Bool.and_eq_true, Bool.and_eq_false_imp, Bool.not_eq_true', Bool.not_eq_false'] at hc1
    refine AW.regR rfl (by simp (maxSteps := 1000000) only [go_sem] <;> exact rfl) (by first | (simp (disch := omega) only [go_sem, w64, wU] <;> exact rfl) | exact rfl) ?_
    refine retK.fin rfl (by simp (maxSteps := 1000000) only [go_sem] <;> exact rfl) (by simp (maxSteps := 1000000) only [go_sem] <;> exact rfl) (.of ?_)
    rw [fewS, if_pos (by omega)]
  · try simp only [decide_eq_true_eq, decide_eq_false_iff_not, Bool.or_eq_true, Bool.or_eq_false_iff, Bool.and_eq_true, Bool.and_eq_false_imp, Bool.not_eq_true', Bool.not_eq_false'] at hc1
    refine AW.skip ?_
    show AW _ _ _ _ _
    refine AW.regR rfl (by simp (maxSteps := 1000000) only [go_sem] <;> exact rfl) (by first | (simp (disch := omega) only [go_sem, w64, wU] <;> exact rfl) | exact rfl) ?_
    refine retK.fin rfl (by simp (maxSteps := 1000000) only [go_sem] <;> exact rfl) (by simp (maxSteps := 1000000) only [go_sem] <;> exact rfl) (.of ?_)
    rw [fewS, if_neg (by omega)]
end Go.Ab.Try
