/- The example of the masks; what any device's masks are. -/
import Derived.Test.YtknlgjeeenkleaaF4
namespace Go.Ab.Try
open Go.Proofs Go.Ab
set_option linter.unusedVariables false
set_option linter.unusedSimpArgs false
set_option maxRecDepth 100000
def wL : List Pn := [(0, 1, 0), (0, 2, 1)]
theorem wLi : ∀ p ∈ wL, I64 p.2.2 := by intro p hp; simp [wL] at hp; rcases hp with rfl | rfl <;> exact ⟨by decide, by decide⟩
theorem nLi : ∀ p ∈ ([] : List Pn), I64 p.2.2 := by intro p hp; simp at hp
def dvT : PV := .agg [.lst true 1 ([0, 0].map wdR), .lst true 3 (wL.map pnR), .int .i64 1]
theorem sub_dvT : Sub dvT (devV [0, 0] wL 1) := Sub.agg ⟨Sub.full _ _ _, Sub.full _ _ _, Sub.refl _, trivial⟩
theorem sub_dv0 : Sub (.agg [.lst true 0 [], .lst true 0 [], .int .i64 0]) (devV [] [] 0) := Sub.agg ⟨Sub.nil0 0 1 true, Sub.nil0 0 3 true, Sub.refl _, trivial⟩
theorem c48  : PC Try.prog 48 [] (.bool true) := by
  refine PC.start 39 Try.call48 Try.func48 rfl Try.ntmps48 Try.results48 (by simp only [go_sem]; exact rfl) fun z hz => ?_
  refine AW.regR rfl (by simp (maxSteps := 1000000) only [go_sem, List.length_map] <;> exact rfl) (by simp (disch := omega) only [go_sem, w64, wU, List.length_map] <;> exact rfl) ?_
  refine AW.regR rfl (by simp (maxSteps := 1000000) only [go_sem, List.length_map] <;> exact rfl) (by simp (disch := omega) only [go_sem, w64, wU, List.length_map] <;> exact rfl) ?_
  refine AW.regS rfl ?_
  refine ARN.run1 (by simp (maxSteps := 1000000) only [go_sem, List.length_map] <;> exact rfl) ?_
  refine ARN.pcall (fun hp => (c50 [0, 0] wL 1 (by decide) wLi).arg (ps := [dvT]) ⟨sub_dvT, trivial⟩) rfl (by simp (maxSteps := 1000000) only [go_sem, List.length_map] <;> exact rfl) (by simp only [go_sem]) (by simp (maxSteps := 1000000) only [go_sem, List.length_map] <;> exact rfl) ?_
  refine ARN.run1 (by simp (maxSteps := 1000000) only [go_sem, List.length_map] <;> exact rfl) ?_
  refine ARN.pcall (fun hp => c49 (mks wL) [0, 1, 3] false true (by decide +kernel) (by decide)) rfl (by simp (maxSteps := 1000000) only [go_sem, List.length_map] <;> exact rfl) (by simp only [go_sem]) (by simp (maxSteps := 1000000) only [go_sem, List.length_map] <;> exact rfl) ?_
  refine ARN.run1 (by simp (maxSteps := 1000000) only [go_sem, List.length_map] <;> exact rfl) ?_
  refine ARN.pcall (fun hp => (c52 [0, 0] wL 1 2 (by decide) wLi).arg (ps := [dvT, .int .i64 2]) ⟨sub_dvT, Sub.refl _, trivial⟩) rfl (by simp (maxSteps := 1000000) only [go_sem, List.length_map] <;> exact rfl) (by simp only [go_sem]) (by simp (maxSteps := 1000000) only [go_sem, List.length_map] <;> exact rfl) ?_
  refine ARN.run1 (by simp (maxSteps := 1000000) only [go_sem, List.length_map] <;> exact rfl) ?_
  refine ARN.pcall (fun hp => (c52 [0, 0] wL 1 4 (by decide) wLi).arg (ps := [dvT, .int .i64 4]) ⟨sub_dvT, Sub.refl _, trivial⟩) rfl (by simp (maxSteps := 1000000) only [go_sem, List.length_map] <;> exact rfl) (by simp only [go_sem]) (by simp (maxSteps := 1000000) only [go_sem, List.length_map] <;> exact rfl) ?_
  refine ARN.run1 (by simp (maxSteps := 1000000) only [go_sem, List.length_map] <;> exact rfl) ?_
  refine ARN.pcall (fun hp => (c54 [0, 0] wL 1 3 (by decide) (by decide)).arg (ps := [dvT, .int .i64 3]) ⟨sub_dvT, Sub.refl _, trivial⟩) rfl (by simp (maxSteps := 1000000) only [go_sem, List.length_map] <;> exact rfl) (by simp only [go_sem]) (by simp (maxSteps := 1000000) only [go_sem, List.length_map] <;> exact rfl) ?_
  refine ARN.run1 (by simp (maxSteps := 1000000) only [go_sem, List.length_map] <;> exact rfl) ?_
  refine ARN.pcall (fun hp => c47 (imgD [0, 0] wL 3) [2, 0] false true (by decide +kernel) (by decide)) rfl (by simp (maxSteps := 1000000) only [go_sem, List.length_map] <;> exact rfl) (by simp only [go_sem]) (by simp (maxSteps := 1000000) only [go_sem, List.length_map] <;> exact rfl) ?_
  refine ARN.run1 (by simp (maxSteps := 1000000) only [go_sem, List.length_map] <;> exact rfl) ?_
  refine ARN.pcall (fun hp => (c54 [0, 0] wL 1 1 (by decide) (by decide)).arg (ps := [dvT, .int .i64 1]) ⟨sub_dvT, Sub.refl _, trivial⟩) rfl (by simp (maxSteps := 1000000) only [go_sem, List.length_map] <;> exact rfl) (by simp only [go_sem]) (by simp (maxSteps := 1000000) only [go_sem, List.length_map] <;> exact rfl) ?_
  refine ARN.run1 (by simp (maxSteps := 1000000) only [go_sem, List.length_map] <;> exact rfl) ?_
  refine ARN.pcall (fun hp => c47 (imgD [0, 0] wL 1) [1, 0] false true (by decide +kernel) (by decide)) rfl (by simp (maxSteps := 1000000) only [go_sem, List.length_map] <;> exact rfl) (by simp only [go_sem]) (by simp (maxSteps := 1000000) only [go_sem, List.length_map] <;> exact rfl) ?_
  refine ARN.run1 (by simp (maxSteps := 1000000) only [go_sem, List.length_map] <;> exact rfl) ?_
  refine ARN.pcall (fun hp => (c50 [] [] 0 (by decide) nLi).arg (ps := [.agg [.lst true 0 [], .lst true 0 [], .int .i64 0]]) ⟨sub_dv0, trivial⟩) rfl (by simp (maxSteps := 1000000) only [go_sem, List.length_map] <;> exact rfl) (by simp only [go_sem]) (by simp (maxSteps := 1000000) only [go_sem, List.length_map] <;> exact rfl) ?_
  refine ARN.run1 (by simp (maxSteps := 1000000) only [go_sem, List.length_map] <;> exact rfl) ?_
  refine ARN.pcall (fun hp => c49 (mks []) [0] false true (by decide +kernel) (by decide)) rfl (by simp (maxSteps := 1000000) only [go_sem, List.length_map] <;> exact rfl) (by simp only [go_sem]) (by simp (maxSteps := 1000000) only [go_sem, List.length_map] <;> exact rfl) ?_
  refine ARN.run1 (by simp (maxSteps := 1000000) only [go_sem, List.length_map] <;> exact rfl) ?_
  refine ARN.fin (by simp (disch := omega) only [go_sem, w64, wU, List.length_map] <;> exact rfl) ?_
  refine retK.fin rfl (by simp (maxSteps := 1000000) only [go_sem, List.length_map] <;> exact rfl) (by simp (maxSteps := 1000000) only [go_sem, List.length_map] <;> exact rfl) (.of ?_)
  exact congrArg PV.bool (by decide +kernel)
theorem c8 (D : List Int) (l : List Pn) (e m : Int) (hw : ∀ p ∈ l, I64 p.2.2) : PC Try.prog 8 [devV D l e, .int .i64 m] (.bool true) := by
  refine PC.start 47 Try.call8 Try.func8 rfl Try.ntmps8 Try.results8 (by simp only [go_sem]; exact rfl) fun z hz => ?_
  refine AW.regR rfl (by simp (maxSteps := 1000000) only [go_sem, List.length_map] <;> exact rfl) (by simp (disch := omega) only [go_sem, w64, wU, List.length_map] <;> exact rfl) ?_
  refine AW.seq ?_
  refine AW.regS rfl ?_
  refine ARN.run1 (by simp (maxSteps := 1000000) only [go_sem, List.length_map] <;> exact rfl) ?_
  refine ARN.pcall (fun hp => c32 D l e) rfl (by simp (maxSteps := 1000000) only [go_sem, List.length_map] <;> exact rfl) (by simp only [go_sem]) (by simp (maxSteps := 1000000) only [go_sem, List.length_map] <;> exact rfl) ?_
  refine ARN.run1 (by simp (maxSteps := 1000000) only [go_sem, List.length_map] <;> exact rfl) ?_
  refine ARN.fin (by simp (disch := omega) only [go_sem, w64, wU, List.length_map] <;> exact rfl) ?_
  refine AW.cond (by simp (maxSteps := 1000000) only [go_sem, List.length_map] <;> exact rfl) (fun hc1 => ?_) (fun hc1 => ?_)
  · try simp only [decide_eq_true_eq, decide_eq_false_iff_not, Bool.or_eq_true, Bool.or_eq_false_iff, Bool.and_eq_true, Bool.and_eq_false_imp, Bool.not_eq_true', Bool.not_eq_false'] at hc1
    refine AW.regS rfl ?_
    refine ARN.pcall (fun hp => c48) rfl (by simp (maxSteps := 1000000) only [go_sem, List.length_map] <;> exact rfl) (by simp only [go_sem]) (by simp (maxSteps := 1000000) only [go_sem, List.length_map] <;> exact rfl) ?_
    refine ARN.run1 (by simp (maxSteps := 1000000) only [go_sem, List.length_map] <;> exact rfl) ?_
    refine ARN.fin (by simp (disch := omega) only [go_sem, w64, wU, List.length_map] <;> exact rfl) ?_
    refine retK.fin rfl (by simp (maxSteps := 1000000) only [go_sem, List.length_map] <;> exact rfl) (by simp (maxSteps := 1000000) only [go_sem, List.length_map] <;> exact rfl) (.of ?_)
    rfl
  · try simp only [decide_eq_true_eq, decide_eq_false_iff_not, Bool.or_eq_true, Bool.or_eq_false_iff, Bool.and_eq_true, Bool.and_eq_false_imp, Bool.not_eq_true', Bool.not_eq_false'] at hc1
    refine AW.skip ?_
    show AW _ _ _ _ _
    have hf := few_1 hc1.1
    have hml : (mks l).length ≤ 4096 := mks_few l
    refine AW.regDS follows (by kernel_rfl) ?_
    refine ARE.run1 (by simp (maxSteps := 1000000) only [go_sem, List.length_map] <;> exact rfl) ?_
    refine ARE.pcall (fun hp => c50 D l e hf.2 hw) rfl (by simp (maxSteps := 1000000) only [go_sem, List.length_map] <;> exact rfl) (by simp only [go_sem]) (by simp (maxSteps := 1000000) only [go_sem, List.length_map] <;> exact rfl) ?_
    refine ARE.run1 (by simp (maxSteps := 1000000) only [go_sem, List.length_map] <;> exact rfl) ?_
    refine ARE.pcall (fun hp => c51 D l e hf.2) rfl (by simp (maxSteps := 1000000) only [go_sem, List.length_map] <;> exact rfl) (by simp only [go_sem]) (by simp (maxSteps := 1000000) only [go_sem, List.length_map] <;> exact rfl) ?_
    refine ARE.pcall (fun hp => c49 (mks l) (mks l) false false (by omega) (by omega)) rfl (by simp (maxSteps := 1000000) only [go_sem, List.length_map] <;> exact rfl) (by simp only [go_sem]) (by simp (maxSteps := 1000000) only [go_sem, List.length_map] <;> exact rfl) ?_
    refine ARE.run1 (by simp (maxSteps := 1000000) only [go_sem, List.length_map] <;> exact rfl) ?_
    refine ARE.pcall (fun hp => c52 D l e m hf.2 hw) rfl (by simp (maxSteps := 1000000) only [go_sem, List.length_map] <;> exact rfl) (by simp only [go_sem]) (by simp (maxSteps := 1000000) only [go_sem, List.length_map] <;> exact rfl) ?_
    refine ARE.run1 (by simp (maxSteps := 1000000) only [go_sem, List.length_map] <;> exact rfl) ?_
    refine ARE.pcall (fun hp => c53 D l e m hf.2) rfl (by simp (maxSteps := 1000000) only [go_sem, List.length_map] <;> exact rfl) (by simp only [go_sem]) (by simp (maxSteps := 1000000) only [go_sem, List.length_map] <;> exact rfl) ?_
    refine ARE.run1 (by simp (maxSteps := 1000000) only [go_sem, List.length_map] <;> exact rfl) ?_
    refine ARE.pcall (fun hp => c54 D l e m (by omega) hf.2) rfl (by simp (maxSteps := 1000000) only [go_sem, List.length_map] <;> exact rfl) (by simp only [go_sem]) (by simp (maxSteps := 1000000) only [go_sem, List.length_map] <;> exact rfl) ?_
    refine ARE.run1 (by simp (maxSteps := 1000000) only [go_sem, List.length_map] <;> exact rfl) ?_
    refine ARE.pcall (fun hp => c55 D l e m (by omega) hf.2) rfl (by simp (maxSteps := 1000000) only [go_sem, List.length_map] <;> exact rfl) (by simp only [go_sem]) (by simp (maxSteps := 1000000) only [go_sem, List.length_map] <;> exact rfl) ?_
    refine ARE.pcall (fun hp => c47 (imgD D l m) (imgD D l m) false false (by rw [imgD_len]; omega) (by rw [imgD_len]; omega)) rfl (by simp (maxSteps := 1000000) only [go_sem, List.length_map] <;> exact rfl) (by simp only [go_sem]) (by simp (maxSteps := 1000000) only [go_sem, List.length_map] <;> exact rfl) ?_
    refine ARE.run1 (by simp (maxSteps := 1000000) only [go_sem, List.length_map] <;> exact rfl) ?_
    refine ARE.pcall (fun hp => c48) rfl (by simp (maxSteps := 1000000) only [go_sem, List.length_map] <;> exact rfl) (by simp only [go_sem]) (by simp (maxSteps := 1000000) only [go_sem, List.length_map] <;> exact rfl) ?_
    refine ARE.run1 (by simp (maxSteps := 1000000) only [go_sem, List.length_map] <;> exact rfl) ?_
    refine ARE.fin [0, 1, 0, 7, 15, 31, 63, 63, 255, 63, 63, 2047, 4095, 8191, 16383, 32767, 32767, 131071, 32767, 32767, 1048575, 2097151, 4194303, 8388607, 16777215, 33554431, 67108863] _ (by kernel_rfl) (by simp (maxSteps := 1000000) only [go_sem, List.length_map] <;> exact rfl) (by kernel_rfl) (by simp (disch := omega) only [go_sem, w64, wU, List.length_map] <;> exact rfl) ?_
    refine retK.fin rfl (by simp (maxSteps := 1000000) only [go_sem, List.length_map] <;> exact rfl) (by simp (maxSteps := 1000000) only [go_sem, List.length_map] <;> exact rfl) (.of ?_)
    simp
end Go.Ab.Try
