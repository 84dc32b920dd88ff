/- The machine's examples and laws. -/
import Derived.Test.YtlgfbiepbneihaaVmI
import Derived.Test.YtlgfbiepbneihaaVC
namespace Go.Ab.Try
open Go.Proofs Go.Ab
set_option linter.unusedVariables false
set_option linter.unusedSimpArgs false
set_option linter.unnecessarySimpa false
set_option maxRecDepth 100000
def dv0 : PV := .agg [.lst true 0 [], .lst true 0 [], .int .i64 0]
theorem sub_dv0 : Sub dv0 (devV [] [] 0) := Sub.agg ⟨Sub.nil0 0 1 true, Sub.nil0 0 3 true, Sub.refl _, trivial⟩
theorem sub_by0 : Sub (.lst true 0 []) (.lst false 1 (([] : List Int).map byR)) := Sub.nil0 0 1 true
theorem sub_in0 : Sub (.lst true 0 []) (.lst false 5 (([] : List Ins).map inR)) := Sub.nil0 0 5 true
theorem sub_co (l : List Ins) : Sub (.lst true 5 (l.map inR)) (.lst false 5 (l.map inR)) := Sub.full _ _ _
theorem ok0 (n : Int) : OkS (startS [] [] 0 n) 60 := start_ok (by intro x h; cases h) (by intro x h; cases h) (by decide)
def co1 : List Ins := [(1, 0, 0, 0, 5), (14, 0, 0, 0, 0)]
def co2 : List Ins := [(5, 0, 0, 0, 0)]
def co3 : List Ins := [(7, 1, 2, 0, 0)]
theorem w_co1 : OkC co1 := by intro i h; simp [co1] at h; rcases h with rfl | rfl <;> (unfold W64; decide)
theorem w_co2 : OkC co2 := by intro i h; simp [co2] at h; subst h; unfold W64; decide
theorem w_co3 : OkC co3 := by intro i h; simp [co3] at h; subst h; unfold W64; decide
theorem w_co0 : OkC [] := by intro i h; cases h
theorem w_in0 : OkI [] := by intro i h; cases h
theorem c44  : PC Try.prog 44 [] (.bool true) := by
  refine PC.start 79 Try.call44 Try.func44 rfl Try.ntmps44 Try.results44 (by simp only [go_sem]; exact rfl) fun z hz => ?_
  refine AW.regR rfl (by simp (maxSteps := 1000000) only [go_sem] <;> exact rfl) (by first | (simp (disch := omega) only [go_sem, w64, wU] <;> exact rfl) | exact rfl) ?_
  refine AW.regS rfl ?_
  refine ARN.run1 (by simp (maxSteps := 1000000) only [go_sem] <;> exact rfl) ?_
  refine ARN.pcall (fun hp => (c47 [] [] 0 0).arg (ps := [dv0, .int .i64 0]) ⟨sub_dv0, Sub.refl _, trivial⟩) rfl (by simp (maxSteps := 1000000) only [go_sem] <;> exact rfl) (by simp only [go_sem]) (by simp (maxSteps := 1000000) only [go_sem] <;> exact rfl) ?_
  refine ARN.pcall (fun hp => (c48 co1 (startS [] [] 0 0) [] 9 0 60 w_co1 (by decide) (ok0 0) (by decide) (by decide) w_in0 (by decide) (by decide)).arg (ps := [.lst true 5 (co1.map inR), stV (startS [] [] 0 0), .lst true 0 [], .int .i64 9, .int .i64 0]) ⟨sub_co _, Sub.refl _, sub_by0, Sub.refl _, Sub.refl _, trivial⟩) rfl (by simp (maxSteps := 1000000) only [go_sem] <;> exact rfl) (by simp only [go_sem]) (by simp (maxSteps := 1000000) only [go_sem] <;> exact rfl) ?_
  refine ARN.run1 (by simp (maxSteps := 1000000) only [go_sem] <;> exact rfl) ?_
  refine ARN.fin (by first | (simp (disch := omega) only [go_sem, w64, wU] <;> exact rfl) | exact rfl) ?_
  refine AW.regS rfl ?_
  refine ARN.run1 (by simp (maxSteps := 1000000) only [go_sem] <;> exact rfl) ?_
  refine ARN.pcall (fun hp => (c47 [] [] 0 0).arg (ps := [dv0, .int .i64 0]) ⟨sub_dv0, Sub.refl _, trivial⟩) rfl (by simp (maxSteps := 1000000) only [go_sem] <;> exact rfl) (by simp only [go_sem]) (by simp (maxSteps := 1000000) only [go_sem] <;> exact rfl) ?_
  refine ARN.pcall (fun hp => (c48 co2 (startS [] [] 0 0) [] 9 0 60 w_co2 (by decide) (ok0 0) (by decide) (by decide) w_in0 (by decide) (by decide)).arg (ps := [.lst true 5 (co2.map inR), stV (startS [] [] 0 0), .lst true 0 [], .int .i64 9, .int .i64 0]) ⟨sub_co _, Sub.refl _, sub_by0, Sub.refl _, Sub.refl _, trivial⟩) rfl (by simp (maxSteps := 1000000) only [go_sem] <;> exact rfl) (by simp only [go_sem]) (by simp (maxSteps := 1000000) only [go_sem] <;> exact rfl) ?_
  refine ARN.run1 (by simp (maxSteps := 1000000) only [go_sem] <;> exact rfl) ?_
  refine ARN.fin (by first | (simp (disch := omega) only [go_sem, w64, wU] <;> exact rfl) | exact rfl) ?_
  refine AW.regS rfl ?_
  refine ARN.run1 (by simp (maxSteps := 1000000) only [go_sem] <;> exact rfl) ?_
  refine ARN.pcall (fun hp => (c47 [] [] 0 3).arg (ps := [dv0, .int .i64 3]) ⟨sub_dv0, Sub.refl _, trivial⟩) rfl (by simp (maxSteps := 1000000) only [go_sem] <;> exact rfl) (by simp only [go_sem]) (by simp (maxSteps := 1000000) only [go_sem] <;> exact rfl) ?_
  refine ARN.pcall (fun hp => (c45 [] (startS [] [] 0 3) [] 0 60 w_co0 (by decide) (ok0 3) (by decide) (by decide) w_in0).arg (ps := [.lst true 0 [], stV (startS [] [] 0 3), .lst true 0 [], .int .i64 0]) ⟨sub_in0, Sub.refl _, sub_by0, Sub.refl _, trivial⟩) rfl (by simp (maxSteps := 1000000) only [go_sem] <;> exact rfl) (by simp only [go_sem]) (by simp (maxSteps := 1000000) only [go_sem] <;> exact rfl) ?_
  refine ARN.run1 (by simp (maxSteps := 1000000) only [go_sem] <;> exact rfl) ?_
  refine ARN.fin (by first | (simp (disch := omega) only [go_sem, w64, wU] <;> exact rfl) | exact rfl) ?_
  refine AW.regS rfl ?_
  refine ARN.run1 (by simp (maxSteps := 1000000) only [go_sem] <;> exact rfl) ?_
  refine ARN.pcall (fun hp => (c47 [] [] 0 0).arg (ps := [dv0, .int .i64 0]) ⟨sub_dv0, Sub.refl _, trivial⟩) rfl (by simp (maxSteps := 1000000) only [go_sem] <;> exact rfl) (by simp only [go_sem]) (by simp (maxSteps := 1000000) only [go_sem] <;> exact rfl) ?_
  refine ARN.pcall (fun hp => (c45 co3 (startS [] [] 0 0) [] 0 60 w_co3 (by decide) (ok0 0) (by decide) (by decide) w_in0).arg (ps := [.lst true 5 (co3.map inR), stV (startS [] [] 0 0), .lst true 0 [], .int .i64 0]) ⟨sub_co _, Sub.refl _, sub_by0, Sub.refl _, trivial⟩) rfl (by simp (maxSteps := 1000000) only [go_sem] <;> exact rfl) (by simp only [go_sem]) (by simp (maxSteps := 1000000) only [go_sem] <;> exact rfl) ?_
  refine ARN.run1 (by simp (maxSteps := 1000000) only [go_sem] <;> exact rfl) ?_
  refine ARN.fin (by first | (simp (disch := omega) only [go_sem, w64, wU] <;> exact rfl) | exact rfl) ?_
  refine AW.regS rfl ?_
  refine ARN.run1 (by simp (maxSteps := 1000000) only [go_sem] <;> exact rfl) ?_
  refine ARN.pcall (fun hp => c46 (runS co1 [] 9 0 (startS [] [] 0 0)) (runS co1 [] 9 0 (startS [] [] 0 0)) (runS_ok (ok0 0) w_co1 w_in0).c6 (runS_ok (ok0 0) w_co1 w_in0).c6 ((runS_ok (ok0 0) w_co1 w_in0).sm (by decide)) ((runS_ok (ok0 0) w_co1 w_in0).sm (by decide))) rfl (by simp (maxSteps := 1000000) only [go_sem] <;> exact rfl) (by simp only [go_sem]) (by simp (maxSteps := 1000000) only [go_sem] <;> exact rfl) ?_
  refine ARN.run1 (by simp (maxSteps := 1000000) only [go_sem] <;> exact rfl) ?_
  refine ARN.pcall (fun hp => c46 (runS co1 [] 9 0 (startS [] [] 0 0)) (runS co2 [] 9 0 (startS [] [] 0 0)) (runS_ok (ok0 0) w_co1 w_in0).c6 (runS_ok (ok0 0) w_co2 w_in0).c6 ((runS_ok (ok0 0) w_co1 w_in0).sm (by decide)) ((runS_ok (ok0 0) w_co2 w_in0).sm (by decide))) rfl (by simp (maxSteps := 1000000) only [go_sem] <;> exact rfl) (by simp only [go_sem]) (by simp (maxSteps := 1000000) only [go_sem] <;> exact rfl) ?_
  refine ARN.run1 (by simp (maxSteps := 1000000) only [go_sem] <;> exact rfl) ?_
  refine ARN.fin (by first | (simp (disch := omega) only [go_sem, w64, wU] <;> exact rfl) | exact rfl) ?_
  refine retK.fin rfl (by simp (maxSteps := 1000000) only [go_sem] <;> exact rfl) (by simp (maxSteps := 1000000) only [go_sem] <;> exact rfl) (.of ?_)
  exact congrArg PV.bool (by decide +kernel)
theorem c10 (code : List Ins) (s : St) (most : Int) (hc : OkC code) (hw : WfS s) : PC Try.prog 10 [.lst false 5 (code.map inR), stV s, .int .i64 most] (.bool true) := by
  refine PC.start 45 Try.call10 Try.func10 rfl Try.ntmps10 Try.results10 (by simp only [go_sem]; exact rfl) fun z hz => ?_
  refine AW.regR rfl (by simp (maxSteps := 1000000) only [go_sem] <;> exact rfl) (by first | (simp (disch := omega) only [go_sem, w64, wU] <;> exact rfl) | exact rfl) ?_
  refine AW.seq ?_
  refine AW.regS rfl ?_
  refine ARN.run1 (by simp (maxSteps := 1000000) only [go_sem] <;> exact rfl) ?_
  refine ARN.pcall (fun hp => c43 s) rfl (by simp (maxSteps := 1000000) only [go_sem] <;> exact rfl) (by simp only [go_sem]) (by simp (maxSteps := 1000000) only [go_sem] <;> exact rfl) ?_
  refine ARN.run1 (by simp (maxSteps := 1000000) only [go_sem] <;> exact rfl) ?_
  refine ARN.fin (by first | (simp (disch := omega) only [go_sem, w64, wU] <;> exact rfl) | exact rfl) ?_
  refine AW.cond (by simp (maxSteps := 1000000) only [go_sem] <;> exact rfl) (fun hc1 => ?_) (fun hc1 => ?_)
  · try simp only [decide_eq_true_eq, decide_eq_false_iff_not, Bool.or_eq_true, Bool.or_eq_false_iff, Bool.and_eq_true, Bool.and_eq_false_imp, Bool.not_eq_true', Bool.not_eq_false'] at hc1
    refine AW.regS rfl ?_
    refine ARN.pcall (fun hp => c44) rfl (by simp (maxSteps := 1000000) only [go_sem] <;> exact rfl) (by simp only [go_sem]) (by simp (maxSteps := 1000000) only [go_sem] <;> exact rfl) ?_
    refine ARN.run1 (by simp (maxSteps := 1000000) only [go_sem] <;> exact rfl) ?_
    refine ARN.fin (by first | (simp (disch := omega) only [go_sem, w64, wU] <;> exact rfl) | exact rfl) ?_
    refine retK.fin rfl (by simp (maxSteps := 1000000) only [go_sem] <;> exact rfl) (by simp (maxSteps := 1000000) only [go_sem] <;> exact rfl) (.of ?_)
    simp [same_self]
  · try simp only [decide_eq_true_eq, decide_eq_false_iff_not, Bool.or_eq_true, Bool.or_eq_false_iff, Bool.and_eq_true, Bool.and_eq_false_imp, Bool.not_eq_true', Bool.not_eq_false'] at hc1
    have hs : OkS s 60 := hw.ok hc1.2
    have hi2 : OkI [7, 200] := by intro x h; simp at h; rcases h with rfl | rfl <;> decide
    have ho : OkS (stepS code [7, 200] most s) 61 := step_ok hs hc hi2
    refine AW.skip ?_
    show AW _ _ _ _ _
    refine AW.regR rfl (by simp (maxSteps := 1000000) only [go_sem, hs, hi2, ho] <;> exact rfl) (by first | (simp (disch := omega) only [go_sem, w64, wU, hs, hi2, ho] <;> exact rfl) | exact rfl) ?_
    refine AW.regS rfl ?_
    refine ARN.run1 (by simp (maxSteps := 1000000) only [go_sem, hs, hi2, ho] <;> exact rfl) ?_
    refine ARN.pcall (fun hp => (c45 code s [7, 200] most 60 hc (by omega) hs (by decide) (by decide) hi2).arg (ps := [.lst false 5 (code.map inR), stV s, .lst true 1 [[.int .u8 7], [.int .u8 200]], .int .i64 most]) ⟨Sub.refl _, Sub.refl _, Sub.full _ _ _, Sub.refl _, trivial⟩) rfl (by simp (maxSteps := 1000000) only [go_sem, hs, hi2, ho] <;> exact rfl) (by simp only [go_sem]) (by simp (maxSteps := 1000000) only [go_sem, hs, hi2, ho] <;> exact rfl) ?_
    refine ARN.run1 (by simp (maxSteps := 1000000) only [go_sem, hs, hi2, ho] <;> exact rfl) ?_
    refine ARN.fin (by first | (simp (disch := omega) only [go_sem, w64, wU, hs, hi2, ho] <;> exact rfl) | exact rfl) ?_
    refine AW.regS rfl ?_
    refine ARN.run1 (by simp (maxSteps := 1000000) only [go_sem, hs, hi2, ho] <;> exact rfl) ?_
    refine ARN.pcall (fun hp => (c27 code s [7, 200] most 60 hc (by omega) hs (by decide) (by decide) hi2).arg (ps := [.lst false 5 (code.map inR), stV s, .lst true 1 [[.int .u8 7], [.int .u8 200]], .int .i64 most]) ⟨Sub.refl _, Sub.refl _, Sub.full _ _ _, Sub.refl _, trivial⟩) rfl (by simp (maxSteps := 1000000) only [go_sem, hs, hi2, ho] <;> exact rfl) (by simp only [go_sem]) (by simp (maxSteps := 1000000) only [go_sem, hs, hi2, ho] <;> exact rfl) ?_
    refine ARN.run1 (by simp (maxSteps := 1000000) only [go_sem, hs, hi2, ho] <;> exact rfl) ?_
    refine ARN.fin (by first | (simp (disch := omega) only [go_sem, w64, wU, hs, hi2, ho] <;> exact rfl) | exact rfl) ?_
    refine AW.regDS follows (by kernel_rfl) ?_
    refine ARE.run1 (by simp (maxSteps := 1000000) only [go_sem, hs, hi2, ho] <;> exact rfl) ?_
    refine ARE.pcall (fun hp => c38 (stepS code [7, 200] most s) (stepS code [7, 200] most s) ho.c6 ho.c6 (ho.sm (by decide)) (ho.sm (by decide))) rfl (by simp (maxSteps := 1000000) only [go_sem, hs, hi2, ho] <;> exact rfl) (by simp only [go_sem]) (by simp (maxSteps := 1000000) only [go_sem, hs, hi2, ho] <;> exact rfl) ?_
    refine ARE.run1 (by simp (maxSteps := 1000000) only [go_sem, hs, hi2, ho] <;> exact rfl) ?_
    refine ARE.pcall (fun hp => c46 s (stepS code [7, 200] most s) hs.c6 ho.c6 (hs.sm (by decide)) (ho.sm (by decide))) rfl (by simp (maxSteps := 1000000) only [go_sem, hs, hi2, ho] <;> exact rfl) (by simp only [go_sem]) (by simp (maxSteps := 1000000) only [go_sem, hs, hi2, ho] <;> exact rfl) ?_
    refine ARE.run1 (by simp (maxSteps := 1000000) only [go_sem, hs, hi2, ho] <;> exact rfl) ?_
    refine ARE.pcall (fun hp => c38 s (stepS code [7, 200] most s) hs.c6 ho.c6 (hs.sm (by decide)) (ho.sm (by decide))) rfl (by simp (maxSteps := 1000000) only [go_sem, hs, hi2, ho] <;> exact rfl) (by simp only [go_sem]) (by simp (maxSteps := 1000000) only [go_sem, hs, hi2, ho] <;> exact rfl) ?_
    refine ARE.run1 (by simp (maxSteps := 1000000) only [go_sem, hs, hi2, ho] <;> exact rfl) ?_
    refine ARE.pcall (fun hp => c44) rfl (by simp (maxSteps := 1000000) only [go_sem, hs, hi2, ho] <;> exact rfl) (by simp only [go_sem]) (by simp (maxSteps := 1000000) only [go_sem, hs, hi2, ho] <;> exact rfl) ?_
    refine ARE.run1 (by simp (maxSteps := 1000000) only [go_sem, hs, hi2, ho] <;> exact rfl) ?_
    refine ARE.fin [0, 0, 3, 7, 15, 15, 63, 15, 15, 511, 1023, 2047, 4095, 8191, 16383, 32767] _ (by kernel_rfl) (by simp (maxSteps := 1000000) only [go_sem, hs, hi2, ho] <;> exact rfl) (by kernel_rfl) (by first | (simp (disch := omega) only [go_sem, w64, wU, hs, hi2, ho] <;> exact rfl) | exact rfl) ?_
    refine retK.fin rfl (by simp (maxSteps := 1000000) only [go_sem, hs, hi2, ho] <;> exact rfl) (by simp (maxSteps := 1000000) only [go_sem, hs, hi2, ho] <;> exact rfl) (.of ?_)
    simp [same_self]
theorem c11 (code : List Ins) (inp D : List Int) (l : List Pn) (e n fuel most : Int) (hc : OkC code) (hii : OkI inp) (hD : ∀ x ∈ D, W64 x) (hl : ∀ p ∈ l, W64 p.2.1) : PC Try.prog 11 [playV code inp D l e n fuel most] (.bool true) := by
  refine PC.start 70 Try.call11 Try.func11 rfl Try.ntmps11 Try.results11 (by simp only [go_sem]; exact rfl) fun z hz => ?_
  refine AW.regR rfl (by simp (maxSteps := 1000000) only [go_sem] <;> exact rfl) (by first | (simp (disch := omega) only [go_sem, w64, wU] <;> exact rfl) | exact rfl) ?_
  refine AW.seq ?_
  refine AW.regS rfl ?_
  refine ARN.run1 (by simp (maxSteps := 1000000) only [go_sem] <;> exact rfl) ?_
  refine ARN.pcall (fun hp => c25 D l e) rfl (by simp (maxSteps := 1000000) only [go_sem] <;> exact rfl) (by simp only [go_sem]) (by simp (maxSteps := 1000000) only [go_sem] <;> exact rfl) ?_
  refine ARN.run1 (by simp (maxSteps := 1000000) only [go_sem] <;> exact rfl) ?_
  refine ARN.fin (by first | (simp (disch := omega) only [go_sem, w64, wU] <;> exact rfl) | exact rfl) ?_
  refine AW.cond (by simp (maxSteps := 1000000) only [go_sem] <;> exact rfl) (fun hc1 => ?_) (fun hc1 => ?_)
  · try simp only [decide_eq_true_eq, decide_eq_false_iff_not, Bool.or_eq_true, Bool.or_eq_false_iff, Bool.and_eq_true, Bool.and_eq_false_imp, Bool.not_eq_true', Bool.not_eq_false'] at hc1
    refine AW.regS rfl ?_
    refine ARN.pcall (fun hp => c44) rfl (by simp (maxSteps := 1000000) only [go_sem] <;> exact rfl) (by simp only [go_sem]) (by simp (maxSteps := 1000000) only [go_sem] <;> exact rfl) ?_
    refine ARN.run1 (by simp (maxSteps := 1000000) only [go_sem] <;> exact rfl) ?_
    refine ARN.fin (by first | (simp (disch := omega) only [go_sem, w64, wU] <;> exact rfl) | exact rfl) ?_
    refine retK.fin rfl (by simp (maxSteps := 1000000) only [go_sem] <;> exact rfl) (by simp (maxSteps := 1000000) only [go_sem] <;> exact rfl) (.of ?_)
    simp [same_self]
  · try simp only [decide_eq_true_eq, decide_eq_false_iff_not, Bool.or_eq_true, Bool.or_eq_false_iff, Bool.and_eq_true, Bool.and_eq_false_imp, Bool.not_eq_true', Bool.not_eq_false'] at hc1
    have hs : OkS (startS D l e n) 60 := start_ok hD hl hc1.1.2
    have ho : OkS (runS code inp fuel most (startS D l e n)) 560 := (runS_ok hs hc hii).more (by show 60 + (fuel - 0).toNat ≤ 560; omega)
    refine AW.skip ?_
    show AW _ _ _ _ _
    refine AW.regS rfl ?_
    refine ARN.run1 (by simp (maxSteps := 1000000) only [go_sem, hs, ho] <;> exact rfl) ?_
    refine ARN.pcall (fun hp => c47 D l e n) rfl (by simp (maxSteps := 1000000) only [go_sem, hs, ho] <;> exact rfl) (by simp only [go_sem]) (by simp (maxSteps := 1000000) only [go_sem, hs, ho] <;> exact rfl) ?_
    refine ARN.run1 (by simp (maxSteps := 1000000) only [go_sem, hs, ho] <;> exact rfl) ?_
    refine ARN.fin (by first | (simp (disch := omega) only [go_sem, w64, wU, hs, ho] <;> exact rfl) | exact rfl) ?_
    refine AW.regS rfl ?_
    refine ARN.run1 (by simp (maxSteps := 1000000) only [go_sem, hs, ho] <;> exact rfl) ?_
    refine ARN.pcall (fun hp => c26 D l e n) rfl (by simp (maxSteps := 1000000) only [go_sem, hs, ho] <;> exact rfl) (by simp only [go_sem]) (by simp (maxSteps := 1000000) only [go_sem, hs, ho] <;> exact rfl) ?_
    refine ARN.run1 (by simp (maxSteps := 1000000) only [go_sem, hs, ho] <;> exact rfl) ?_
    refine ARN.fin (by first | (simp (disch := omega) only [go_sem, w64, wU, hs, ho] <;> exact rfl) | exact rfl) ?_
    refine AW.regS rfl ?_
    refine ARN.run1 (by simp (maxSteps := 1000000) only [go_sem, hs, ho] <;> exact rfl) ?_
    refine ARN.pcall (fun hp => c48 code (startS D l e n) inp fuel most 60 hc (by omega) hs (by show 60 + (fuel - 0).toNat ≤ 1000; omega) (by omega) hii (by omega) (by show -9223372036854775808 ≤ (0 : Int); decide)) rfl (by simp (maxSteps := 1000000) only [go_sem, hs, ho] <;> exact rfl) (by simp only [go_sem]) (by simp (maxSteps := 1000000) only [go_sem, hs, ho] <;> exact rfl) ?_
    refine ARN.run1 (by simp (maxSteps := 1000000) only [go_sem, hs, ho] <;> exact rfl) ?_
    refine ARN.fin (by first | (simp (disch := omega) only [go_sem, w64, wU, hs, ho] <;> exact rfl) | exact rfl) ?_
    refine AW.regS rfl ?_
    refine ARN.run1 (by simp (maxSteps := 1000000) only [go_sem, hs, ho] <;> exact rfl) ?_
    refine ARN.pcall (fun hp => c37 code (startS D l e n) inp fuel most 60 hc (by omega) hs (by show 60 + (fuel - 0).toNat ≤ 1000; omega) (by omega) hii (by omega) (by show -9223372036854775808 ≤ (0 : Int); decide)) rfl (by simp (maxSteps := 1000000) only [go_sem, hs, ho] <;> exact rfl) (by simp only [go_sem]) (by simp (maxSteps := 1000000) only [go_sem, hs, ho] <;> exact rfl) ?_
    refine ARN.run1 (by simp (maxSteps := 1000000) only [go_sem, hs, ho] <;> exact rfl) ?_
    refine ARN.fin (by first | (simp (disch := omega) only [go_sem, w64, wU, hs, ho] <;> exact rfl) | exact rfl) ?_
    refine AW.regS rfl ?_
    refine ARN.run1 (by simp (maxSteps := 1000000) only [go_sem, hs, ho] <;> exact rfl) ?_
    refine ARN.pcall (fun hp => c38 (startS D l e n) (startS D l e n) hs.c6 hs.c6 (hs.sm (by decide)) (hs.sm (by decide))) rfl (by simp (maxSteps := 1000000) only [go_sem, hs, ho] <;> exact rfl) (by simp only [go_sem]) (by simp (maxSteps := 1000000) only [go_sem, hs, ho] <;> exact rfl) ?_
    refine ARN.run1 (by simp (maxSteps := 1000000) only [go_sem, hs, ho] <;> exact rfl) ?_
    refine ARN.pcall (fun hp => c38 (runS code inp fuel most (startS D l e n)) (runS code inp fuel most (startS D l e n)) ho.c6 ho.c6 (ho.sm (by decide)) (ho.sm (by decide))) rfl (by simp (maxSteps := 1000000) only [go_sem, hs, ho] <;> exact rfl) (by simp only [go_sem]) (by simp (maxSteps := 1000000) only [go_sem, hs, ho] <;> exact rfl) ?_
    refine ARN.run1 (by simp (maxSteps := 1000000) only [go_sem, hs, ho] <;> exact rfl) ?_
    refine ARN.pcall (fun hp => c44) rfl (by simp (maxSteps := 1000000) only [go_sem, hs, ho] <;> exact rfl) (by simp only [go_sem]) (by simp (maxSteps := 1000000) only [go_sem, hs, ho] <;> exact rfl) ?_
    refine ARN.run1 (by simp (maxSteps := 1000000) only [go_sem, hs, ho] <;> exact rfl) ?_
    refine ARN.fin (by first | (simp (disch := omega) only [go_sem, w64, wU, hs, ho] <;> exact rfl) | exact rfl) ?_
    refine retK.fin rfl (by simp (maxSteps := 1000000) only [go_sem, hs, ho] <;> exact rfl) (by simp (maxSteps := 1000000) only [go_sem, hs, ho] <;> exact rfl) (.of ?_)
    simp [same_self]
theorem c12 (code : List Ins) (inp D : List Int) (l : List Pn) (e n fuel most k : Int) (hc : OkC code) (hii : OkI inp) (hD : ∀ x ∈ D, W64 x) (hl : ∀ p ∈ l, W64 p.2.1) (hk : 0 ≤ k ∧ k < 256) : PC Try.prog 12 [playV code inp D l e n fuel most, .int .u8 k] (.bool true) := by
  refine PC.start 97 Try.call12 Try.func12 rfl Try.ntmps12 Try.results12 (by simp only [go_sem]; exact rfl) fun z hz => ?_
  refine AW.regR rfl (by simp (maxSteps := 1000000) only [go_sem] <;> exact rfl) (by first | (simp (disch := omega) only [go_sem, w64, wU] <;> exact rfl) | exact rfl) ?_
  refine AW.seq ?_
  refine AW.regS rfl ?_
  refine ARN.run1 (by simp (maxSteps := 1000000) only [go_sem] <;> exact rfl) ?_
  refine ARN.pcall (fun hp => c25 D l e) rfl (by simp (maxSteps := 1000000) only [go_sem] <;> exact rfl) (by simp only [go_sem]) (by simp (maxSteps := 1000000) only [go_sem] <;> exact rfl) ?_
  refine ARN.run1 (by simp (maxSteps := 1000000) only [go_sem] <;> exact rfl) ?_
  refine ARN.fin (by first | (simp (disch := omega) only [go_sem, w64, wU] <;> exact rfl) | exact rfl) ?_
  refine AW.cond (by simp (maxSteps := 1000000) only [go_sem] <;> exact rfl) (fun hc1 => ?_) (fun hc1 => ?_)
  · try simp only [decide_eq_true_eq, decide_eq_false_iff_not, Bool.or_eq_true, Bool.or_eq_false_iff, Bool.and_eq_true, Bool.and_eq_false_imp, Bool.not_eq_true', Bool.not_eq_false'] at hc1
    refine AW.regS rfl ?_
    refine ARN.pcall (fun hp => c44) rfl (by simp (maxSteps := 1000000) only [go_sem] <;> exact rfl) (by simp only [go_sem]) (by simp (maxSteps := 1000000) only [go_sem] <;> exact rfl) ?_
    refine ARN.run1 (by simp (maxSteps := 1000000) only [go_sem] <;> exact rfl) ?_
    refine ARN.fin (by first | (simp (disch := omega) only [go_sem, w64, wU] <;> exact rfl) | exact rfl) ?_
    refine retK.fin rfl (by simp (maxSteps := 1000000) only [go_sem] <;> exact rfl) (by simp (maxSteps := 1000000) only [go_sem] <;> exact rfl) (.of ?_)
    rfl
  · try simp only [decide_eq_true_eq, decide_eq_false_iff_not, Bool.or_eq_true, Bool.or_eq_false_iff, Bool.and_eq_true, Bool.and_eq_false_imp, Bool.not_eq_true', Bool.not_eq_false'] at hc1
    have hs : OkS (startS D l e n) 60 := start_ok hD hl hc1.1.2
    have hwk : IntKind.i64.wrap k = k := w64 (by omega) (by omega)
    refine AW.skip ?_
    show AW _ _ _ _ _
    refine AW.regS rfl ?_
    refine ARN.run1 (by simp (maxSteps := 1000000) only [go_sem, hs, hwk] <;> exact rfl) ?_
    refine ARN.pcall (fun hp => c47 D l e n) rfl (by simp (maxSteps := 1000000) only [go_sem, hs, hwk] <;> exact rfl) (by simp only [go_sem]) (by simp (maxSteps := 1000000) only [go_sem, hs, hwk] <;> exact rfl) ?_
    refine ARN.run1 (by simp (maxSteps := 1000000) only [go_sem, hs, hwk] <;> exact rfl) ?_
    refine ARN.fin (by first | (simp (disch := omega) only [go_sem, w64, wU, hs, hwk] <;> exact rfl) | exact rfl) ?_
    refine AW.seq ?_
    refine AW.regR rfl (by simp (maxSteps := 1000000) only [go_sem, hs, hwk] <;> exact rfl) (by first | (simp (disch := omega) only [go_sem, w64, wU, hs, hwk] <;> exact rfl) | exact rfl) ?_
    refine AW.block ?_
    refine AW.loopV (α := (Int) × (St)) (fun ((i, u) : (Int) × (St)) => [(6, .pv (.int .i64 i))]) (fun ((i, u) : (Int) × (St)) => [.box (plA code inp D l e n fuel most), .box (stA u)]) (fun ((i, u) : (Int) × (St)) => (runS code inp fuel most (startS D l e n) = runS code inp fuel most u) ∧ (OkS u (60 + (u.steps - 0).toNat)) ∧ (0 ≤ u.steps) ∧ (u.steps = 0 ∨ u.steps ≤ fuel) ∧ (0 ≤ i) ∧ (i ≤ k)) (fun ((i, u) : (Int) × (St)) => (k - i).toNat) (0, startS D l e n) ?_ ?_ ?_
    · exact ⟨rfl, hs, Int.le_refl 0, .inl rfl, by omega, by omega⟩
    · refine Wk.to [] [0, 1] hz (by decide) ?_ ?_
      · simp (maxSteps := 1000000) (disch := omega) only [go_sem, w64, wU, hs, hwk]
      · simp (maxSteps := 1000000) (disch := omega) only [go_sem, w64, wU, hs, hwk]
    · rintro ⟨i, u⟩ hF _ ht _ hh
      simp only [updT, go_sem] at ht hh
      subst ht; subst hh
      obtain ⟨h1, h2, h3, h4, h5, h6⟩ := hF
      refine AW.seq ?_
      refine AW.regR rfl (by simp (maxSteps := 1000000) only [go_sem, hs, hwk] <;> exact rfl) (by first | (simp (disch := omega) only [go_sem, w64, wU, hs, hwk] <;> exact rfl) | exact rfl) ?_
      refine AW.cond (by simp (maxSteps := 1000000) only [go_sem, hs, hwk] <;> exact rfl) (fun hc2 => ?_) (fun hc2 => ?_)
      · try simp only [decide_eq_true_eq, decide_eq_false_iff_not, Bool.or_eq_true, Bool.or_eq_false_iff, Bool.and_eq_true, Bool.and_eq_false_imp, Bool.not_eq_true', Bool.not_eq_false'] at hc2
        have hro : OkS (stepS code inp most u) (60 + ((stepS code inp most u).steps - 0).toNat) ∧ (stepS code inp most u).steps = u.steps + 1 := run_ok (s := startS D l e n) h2 hc hii hc2.1.2 h3 (by omega) (by omega)
        have h7 : runS code inp fuel most u = runS code inp fuel most (stepS code inp most u) := run_step hc2.1.2 hc2.2 (by omega) (by omega)
        refine AW.skip ?_
        show AW _ _ _ _ _
        refine AW.seq ?_
        refine AW.block ?_
        refine AW.reg rfl ?_
        refine ARN.run1 (by simp (maxSteps := 1000000) only [go_sem, hs, hwk, hro, h7] <;> exact rfl) ?_
        refine ARN.pcall (fun hp => c45 code u inp most _ hc (by omega) h2 (by omega) (by omega) hii) rfl (by simp (maxSteps := 1000000) only [go_sem, hs, hwk, hro, h7] <;> exact rfl) (by simp only [go_sem]) (by simp (maxSteps := 1000000) only [go_sem, hs, hwk, hro, h7] <;> exact rfl) ?_
        refine ARN.run1 (by simp (maxSteps := 1000000) only [go_sem, hs, hwk, hro, h7] <;> exact rfl) ?_
        refine ARN.fin1 (by first | (simp (disch := omega) only [go_sem, w64, wU, hs, hwk, hro, h7] <;> exact rfl) | exact rfl) ?_
        show AW _ _ _ _ _
        refine AW.regR1 rfl (by simp (maxSteps := 1000000) only [go_sem, hs, hwk, hro, h7] <;> exact rfl) (by first | (simp (disch := omega) only [go_sem, w64, wU, hs, hwk, hro, h7] <;> exact rfl) | exact rfl) ?_
        refine ⟨((i + 1), stepS code inp most u), ?_, ?_, ?_⟩
        · (try dsimp only); omega
        · exact ⟨h1.trans h7, hro.1, by have := hro.2; omega, .inr (by have := hro.2; omega), by omega, by omega⟩
        · refine Wk.to [] [0, 1] hz (by decide) ?_ ?_
          · simp (maxSteps := 1000000) (disch := omega) only [go_sem, w64, wU, hs, hwk, hro, h7]
          · simp (maxSteps := 1000000) (disch := omega) only [go_sem, w64, wU, hs, hwk, hro, h7]
      · try simp only [decide_eq_true_eq, decide_eq_false_iff_not, Bool.or_eq_true, Bool.or_eq_false_iff, Bool.and_eq_true, Bool.and_eq_false_imp, Bool.not_eq_true', Bool.not_eq_false'] at hc2
        have ho : OkS (runS code inp fuel most u) 1000 := (runS_ok h2 hc hii).more (by omega)
        refine AW.exit ?_
        show AW _ _ _ _ _
        refine AW.regS rfl ?_
        refine ARN.run1 (by simp (maxSteps := 1000000) only [go_sem, hs, hwk, ho] <;> exact rfl) ?_
        refine ARN.pcall (fun hp => c48 code u inp fuel most _ hc (by omega) h2 (by omega) (by omega) hii (by omega) (by omega)) rfl (by simp (maxSteps := 1000000) only [go_sem, hs, hwk, ho] <;> exact rfl) (by simp only [go_sem]) (by simp (maxSteps := 1000000) only [go_sem, hs, hwk, ho] <;> exact rfl) ?_
        refine ARN.run1 (by simp (maxSteps := 1000000) only [go_sem, hs, hwk, ho] <;> exact rfl) ?_
        refine ARN.fin (by first | (simp (disch := omega) only [go_sem, w64, wU, hs, hwk, ho] <;> exact rfl) | exact rfl) ?_
        refine AW.regDS follows (by kernel_rfl) ?_
        refine ARE.run1 (by simp (maxSteps := 1000000) only [go_sem, hs, hwk, ho] <;> exact rfl) ?_
        refine ARE.pcall (fun hp => c47 D l e n) rfl (by simp (maxSteps := 1000000) only [go_sem, hs, hwk, ho] <;> exact rfl) (by simp only [go_sem]) (by simp (maxSteps := 1000000) only [go_sem, hs, hwk, ho] <;> exact rfl) ?_
        refine ARE.run1 (by simp (maxSteps := 1000000) only [go_sem, hs, hwk, ho] <;> exact rfl) ?_
        refine ARE.pcall (fun hp => c48 code (startS D l e n) inp fuel most 60 hc (by omega) hs (by show 60 + (fuel - 0).toNat ≤ 1000; omega) (by omega) hii (by omega) (by show -9223372036854775808 ≤ (0 : Int); decide)) rfl (by simp (maxSteps := 1000000) only [go_sem, hs, hwk, ho] <;> exact rfl) (by simp only [go_sem]) (by simp (maxSteps := 1000000) only [go_sem, hs, hwk, ho] <;> exact rfl) ?_
        refine ARE.run1 (by simp (maxSteps := 1000000) only [go_sem, hs, hwk, ho] <;> exact rfl) ?_
        refine ARE.fin [0, 1, 0, 4, 0, 16, 60, 0, 128, 0, 512, 0, 2048, 8191, 0, 32767] _ (by kernel_rfl) (by simp (maxSteps := 1000000) only [go_sem, hs, hwk, ho] <;> exact rfl) (by kernel_rfl) (by first | (simp (disch := omega) only [go_sem, w64, wU, hs, hwk, ho] <;> exact rfl) | exact rfl) ?_
        refine AW.regS rfl ?_
        refine ARN.run1 (by simp (maxSteps := 1000000) only [go_sem, hs, hwk, ho] <;> exact rfl) ?_
        refine ARN.pcall (fun hp => c38 (runS code inp fuel most u) (runS code inp fuel most (startS D l e n)) ho.c6 (by rw [h1]; exact ho.c6) (ho.sm (by decide)) (by rw [h1]; exact ho.sm (by decide))) rfl (by simp (maxSteps := 1000000) only [go_sem, hs, hwk, ho] <;> exact rfl) (by simp only [go_sem]) (by simp (maxSteps := 1000000) only [go_sem, hs, hwk, ho] <;> exact rfl) ?_
        refine ARN.run1 (by simp (maxSteps := 1000000) only [go_sem, hs, hwk, ho] <;> exact rfl) ?_
        refine ARN.pcall (fun hp => c44) rfl (by simp (maxSteps := 1000000) only [go_sem, hs, hwk, ho] <;> exact rfl) (by simp only [go_sem]) (by simp (maxSteps := 1000000) only [go_sem, hs, hwk, ho] <;> exact rfl) ?_
        refine ARN.run1 (by simp (maxSteps := 1000000) only [go_sem, hs, hwk, ho] <;> exact rfl) ?_
        refine ARN.fin (by first | (simp (disch := omega) only [go_sem, w64, wU, hs, hwk, ho] <;> exact rfl) | exact rfl) ?_
        refine retK.fin rfl (by simp (maxSteps := 1000000) only [go_sem, hs, hwk, ho] <;> exact rfl) (by simp (maxSteps := 1000000) only [go_sem, hs, hwk, ho] <;> exact rfl) (.of ?_)
        rw [h1]; simp [same_self, run_ends]
end Go.Ab.Try
