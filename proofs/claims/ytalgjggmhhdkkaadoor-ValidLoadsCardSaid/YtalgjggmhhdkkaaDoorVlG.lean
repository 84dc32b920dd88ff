/- Programs that may be: the example and the laws. -/
import Derived.Test.YtalgjggmhhdkkaaDoorVlF
namespace Go.Ab.Tryd
open Go.Proofs Go.Ab
set_option linter.unusedVariables false
set_option linter.unusedSimpArgs false
set_option linter.unnecessarySimpa false
set_option maxRecDepth 100000
theorem c7q : PC Tryd.prog 7 [.agg [.int .i64 1, .int .i64 0, .lst true 1 [[.int .u64 0]], .lst false 5 [inR iH], .lst false 5 [inR iH], .lst false 5 [inR iH]]] (.tup [.int .i64 0, .int .i64 0, .int .i64 0]) := by
  have := (c7 pQ (okpg_dec (by decide)) ⟨by decide, by decide, by decide, by decide⟩).arg (ps := [.agg [.int .i64 1, .int .i64 0, .lst true 1 [[.int .u64 0]], .lst false 5 [inR iH], .lst false 5 [inR iH], .lst false 5 [inR iH]]]) ⟨Sub.agg ⟨Sub.refl _, Sub.refl _, Sub.full _ _ _, Sub.refl _, Sub.refl _, Sub.refl _, trivial⟩, trivial⟩
  rwa [check_Q] at this
theorem c7z : PC Tryd.prog 7 [.agg [.int .i64 0, .int .i64 0, .lst true 0 [], .lst true 0 [], .lst true 0 [], .lst true 0 []]] (.tup [.int .i64 0, .int .i64 0, .int .i64 17]) := by
  have := (c7 pg0 okpg_0 sm_0).arg (ps := [.agg [.int .i64 0, .int .i64 0, .lst true 0 [], .lst true 0 [], .lst true 0 [], .lst true 0 []]]) ⟨sub_pg0, trivial⟩
  rwa [check_Z] at this
theorem c7r : PC Tryd.prog 7 [.agg [.int .i64 1, .int .i64 0, .lst true 1 [[.int .u64 0]], .lst false 5 [inR iH], .lst true 5 [inR (12, 0, 0, 0, 0), inR (9, 0, 0, 0, 0)], .lst false 5 [inR iH]]] (.tup [.int .i64 1, .int .i64 1, .int .i64 16]) := by
  have := (c7 pR (okpg_dec (by decide)) ⟨by decide, by decide, by decide, by decide⟩).arg (ps := [.agg [.int .i64 1, .int .i64 0, .lst true 1 [[.int .u64 0]], .lst false 5 [inR iH], .lst true 5 [inR (12, 0, 0, 0, 0), inR (9, 0, 0, 0, 0)], .lst false 5 [inR iH]]]) ⟨Sub.agg ⟨Sub.refl _, Sub.refl _, Sub.full _ _ _, Sub.refl _, Sub.full _ _ _, Sub.refl _, trivial⟩, trivial⟩
  rwa [check_R] at this
theorem c9b : PC Tryd.prog 9 [.str ⟨#[66, 87, 75, 49]⟩] (.tup [pgV pg0, .int .i64 6]) := by
  have := c9 [66, 87, 75, 49] (ok_dec (by decide)) (by decide)
  rwa [load_B, ← lit_V] at this
attribute [go_sem] iH pg0
theorem c13  : PC Tryd.prog 13 [] (.lst false 5 [inR iH]) := by
  refine PC.start 3 Tryd.call13 Tryd.func13 rfl Tryd.ntmps13 Tryd.results13 (by simp only [go_sem]; exact rfl) fun z hz => ?_
  refine AW.regR rfl (by simp (maxSteps := 1000000) only [go_sem] <;> exact rfl) (by first | (simp (disch := omega) only [go_sem, w64, wU] <;> exact rfl) | exact rfl) ?_
  refine AW.regR rfl (by simp (maxSteps := 1000000) only [go_sem] <;> exact rfl) (by first | (simp (disch := omega) only [go_sem, w64, wU] <;> exact rfl) | exact rfl) ?_
  refine retK.fin rfl (by simp (maxSteps := 1000000) only [go_sem] <;> exact rfl) (by simp (maxSteps := 1000000) only [go_sem] <;> exact rfl) ?_
  exact Sub.full _ _ _
theorem c6  : PC Tryd.prog 6 [] (.bool true) := by
  refine PC.start 68 Tryd.call6 Tryd.func6 rfl Tryd.ntmps6 Tryd.results6 (by simp only [go_sem]; exact rfl) fun z hz => ?_
  refine AW.regR rfl (by simp (maxSteps := 1000000) only [go_sem] <;> exact rfl) (by first | (simp (disch := omega) only [go_sem, w64, wU] <;> exact rfl) | exact rfl) ?_
  refine AW.regS rfl ?_
  refine ARN.run1 (by simp (maxSteps := 1000000) only [go_sem] <;> exact rfl) ?_
  refine ARN.pcall (fun hp => c13) rfl (by simp (maxSteps := 1000000) only [go_sem] <;> exact rfl) (by simp only [go_sem]) (by simp (maxSteps := 1000000) only [go_sem] <;> exact rfl) ?_
  refine ARN.pcall (fun hp => c13) rfl (by simp (maxSteps := 1000000) only [go_sem] <;> exact rfl) (by simp only [go_sem]) (by simp (maxSteps := 1000000) only [go_sem] <;> exact rfl) ?_
  refine ARN.pcall (fun hp => c13) rfl (by simp (maxSteps := 1000000) only [go_sem] <;> exact rfl) (by simp only [go_sem]) (by simp (maxSteps := 1000000) only [go_sem] <;> exact rfl) ?_
  refine ARN.run1 (by simp (maxSteps := 1000000) only [go_sem] <;> exact rfl) ?_
  refine ARN.fin (by first | (simp (disch := omega) only [go_sem, w64, wU] <;> exact rfl) | exact rfl) ?_
  refine AW.regS rfl ?_
  refine ARN.run1 (by simp (maxSteps := 1000000) only [go_sem] <;> exact rfl) ?_
  refine ARN.pcall (fun hp => c7q) rfl (by simp (maxSteps := 1000000) only [go_sem] <;> exact rfl) (by simp only [go_sem]) (by simp (maxSteps := 1000000) only [go_sem] <;> exact rfl) ?_
  refine ARN.run1 (by simp (maxSteps := 1000000) only [go_sem] <;> exact rfl) ?_
  refine ARN.fin (by first | (simp (disch := omega) only [go_sem, w64, wU] <;> exact rfl) | exact rfl) ?_
  refine AW.regS rfl ?_
  refine ARN.run1 (by simp (maxSteps := 1000000) only [go_sem] <;> exact rfl) ?_
  refine ARN.pcall (fun hp => c7z) rfl (by simp (maxSteps := 1000000) only [go_sem] <;> exact rfl) (by simp only [go_sem]) (by simp (maxSteps := 1000000) only [go_sem] <;> exact rfl) ?_
  refine ARN.run1 (by simp (maxSteps := 1000000) only [go_sem] <;> exact rfl) ?_
  refine ARN.fin (by first | (simp (disch := omega) only [go_sem, w64, wU] <;> exact rfl) | exact rfl) ?_
  refine AW.regR rfl (by simp (maxSteps := 1000000) only [go_sem] <;> exact rfl) (by first | (simp (disch := omega) only [go_sem, w64, wU] <;> exact rfl) | exact rfl) ?_
  refine AW.regS rfl ?_
  refine ARN.run1 (by simp (maxSteps := 1000000) only [go_sem] <;> exact rfl) ?_
  refine ARN.pcall (fun hp => c7r) rfl (by simp (maxSteps := 1000000) only [go_sem] <;> exact rfl) (by simp only [go_sem]) (by simp (maxSteps := 1000000) only [go_sem] <;> exact rfl) ?_
  refine ARN.run1 (by simp (maxSteps := 1000000) only [go_sem] <;> exact rfl) ?_
  refine ARN.fin (by first | (simp (disch := omega) only [go_sem, w64, wU] <;> exact rfl) | exact rfl) ?_
  refine AW.regS rfl ?_
  refine ARN.pcall (fun hp => c9b) rfl (by simp (maxSteps := 1000000) only [go_sem] <;> exact rfl) (by simp only [go_sem]) (by simp (maxSteps := 1000000) only [go_sem] <;> exact rfl) ?_
  refine ARN.run1 (by simp (maxSteps := 1000000) only [go_sem] <;> exact rfl) ?_
  refine ARN.fin (by first | (simp (disch := omega) only [go_sem, w64, wU] <;> exact rfl) | exact rfl) ?_
  refine AW.regR rfl (by simp (maxSteps := 1000000) only [go_sem] <;> exact rfl) (by first | (simp (disch := omega) only [go_sem, w64, wU] <;> exact rfl) | exact rfl) ?_
  refine retK.fin rfl (by simp (maxSteps := 1000000) only [go_sem] <;> exact rfl) (by simp (maxSteps := 1000000) only [go_sem] <;> exact rfl) (.of ?_)
  rfl
theorem c3 (p : Pg) (wp : OkPg p) : PC Tryd.prog 3 [pgV p] (.bool true) := by
  refine PC.start 41 Tryd.call3 Tryd.func3 rfl Tryd.ntmps3 Tryd.results3 (by simp only [go_sem]; exact rfl) fun z hz => ?_
  refine AW.regR rfl (by simp (maxSteps := 1000000) only [go_sem, beq_self_eq_true, Bool.and_self, decide_true] <;> exact rfl) (by first | (simp (disch := omega) only [go_sem, w64, wU, beq_self_eq_true, Bool.and_self, decide_true] <;> exact rfl) | exact rfl) ?_
  refine AW.seq ?_
  refine AW.regS rfl ?_
  refine ARN.run1 (by simp (maxSteps := 1000000) only [go_sem, beq_self_eq_true, Bool.and_self, decide_true] <;> exact rfl) ?_
  refine ARN.pcall (fun hp => c5 p) rfl (by simp (maxSteps := 1000000) only [go_sem, beq_self_eq_true, Bool.and_self, decide_true] <;> exact rfl) (by simp only [go_sem]) (by simp (maxSteps := 1000000) only [go_sem, beq_self_eq_true, Bool.and_self, decide_true] <;> exact rfl) ?_
  refine ARN.run1 (by simp (maxSteps := 1000000) only [go_sem, beq_self_eq_true, Bool.and_self, decide_true] <;> exact rfl) ?_
  refine ARN.fin (by first | (simp (disch := omega) only [go_sem, w64, wU, beq_self_eq_true, Bool.and_self, decide_true] <;> exact rfl) | exact rfl) ?_
  refine AW.cond (by simp (maxSteps := 1000000) only [go_sem, beq_self_eq_true, Bool.and_self, decide_true] <;> exact rfl) (fun hc1 => ?_) (fun hc1 => ?_)
  · try simp only [decide_eq_true_eq, decide_eq_false_iff_not, Bool.or_eq_true, Bool.or_eq_false_iff, Bool.and_eq_true, Bool.and_eq_false_imp, Bool.not_eq_true', Bool.not_eq_false'] at hc1
    refine AW.regS rfl ?_
    refine ARN.pcall (fun hp => c6) rfl (by simp (maxSteps := 1000000) only [go_sem, beq_self_eq_true, Bool.and_self, decide_true] <;> exact rfl) (by simp only [go_sem]) (by simp (maxSteps := 1000000) only [go_sem, beq_self_eq_true, Bool.and_self, decide_true] <;> exact rfl) ?_
    refine ARN.run1 (by simp (maxSteps := 1000000) only [go_sem, beq_self_eq_true, Bool.and_self, decide_true] <;> exact rfl) ?_
    refine ARN.fin (by first | (simp (disch := omega) only [go_sem, w64, wU, beq_self_eq_true, Bool.and_self, decide_true] <;> exact rfl) | exact rfl) ?_
    refine retK.fin rfl (by simp (maxSteps := 1000000) only [go_sem, beq_self_eq_true, Bool.and_self, decide_true] <;> exact rfl) (by simp (maxSteps := 1000000) only [go_sem, beq_self_eq_true, Bool.and_self, decide_true] <;> exact rfl) (.of ?_)
    rfl
  · try simp only [decide_eq_true_eq, decide_eq_false_iff_not, Bool.or_eq_true, Bool.or_eq_false_iff, Bool.and_eq_true, Bool.and_eq_false_imp, Bool.not_eq_true', Bool.not_eq_false'] at hc1
    have fp : few p := few_of hc1
    refine AW.skip ?_
    show AW _ _ _ _ _
    refine AW.regS rfl ?_
    refine ARN.run1 (by simp (maxSteps := 1000000) only [go_sem, beq_self_eq_true, Bool.and_self, decide_true, fp] <;> exact rfl) ?_
    refine ARN.pcall (fun hp => c7 p wp (few_sm fp)) rfl (by simp (maxSteps := 1000000) only [go_sem, beq_self_eq_true, Bool.and_self, decide_true, fp] <;> exact rfl) (by simp only [go_sem]) (by simp (maxSteps := 1000000) only [go_sem, beq_self_eq_true, Bool.and_self, decide_true, fp] <;> exact rfl) ?_
    refine ARN.run1 (by simp (maxSteps := 1000000) only [go_sem, beq_self_eq_true, Bool.and_self, decide_true, fp] <;> exact rfl) ?_
    refine ARN.fin (by first | (simp (disch := omega) only [go_sem, w64, wU, beq_self_eq_true, Bool.and_self, decide_true, fp] <;> exact rfl) | exact rfl) ?_
    refine AW.regS rfl ?_
    refine ARN.run1 (by simp (maxSteps := 1000000) only [go_sem, beq_self_eq_true, Bool.and_self, decide_true, fp] <;> exact rfl) ?_
    refine ARN.pcall (fun hp => c8 p wp (few_sm fp)) rfl (by simp (maxSteps := 1000000) only [go_sem, beq_self_eq_true, Bool.and_self, decide_true, fp] <;> exact rfl) (by simp only [go_sem]) (by simp (maxSteps := 1000000) only [go_sem, beq_self_eq_true, Bool.and_self, decide_true, fp] <;> exact rfl) ?_
    refine ARN.run1 (by simp (maxSteps := 1000000) only [go_sem, beq_self_eq_true, Bool.and_self, decide_true, fp] <;> exact rfl) ?_
    refine ARN.fin (by first | (simp (disch := omega) only [go_sem, w64, wU, beq_self_eq_true, Bool.and_self, decide_true, fp] <;> exact rfl) | exact rfl) ?_
    refine AW.regS rfl ?_
    refine ARN.run1 (by simp (maxSteps := 1000000) only [go_sem, beq_self_eq_true, Bool.and_self, decide_true, fp] <;> exact rfl) ?_
    refine ARN.pcall (fun hp => c6) rfl (by simp (maxSteps := 1000000) only [go_sem, beq_self_eq_true, Bool.and_self, decide_true, fp] <;> exact rfl) (by simp only [go_sem]) (by simp (maxSteps := 1000000) only [go_sem, beq_self_eq_true, Bool.and_self, decide_true, fp] <;> exact rfl) ?_
    refine ARN.run1 (by simp (maxSteps := 1000000) only [go_sem, beq_self_eq_true, Bool.and_self, decide_true, fp] <;> exact rfl) ?_
    refine ARN.fin (by first | (simp (disch := omega) only [go_sem, w64, wU, beq_self_eq_true, Bool.and_self, decide_true, fp] <;> exact rfl) | exact rfl) ?_
    refine retK.fin rfl (by simp (maxSteps := 1000000) only [go_sem, beq_self_eq_true, Bool.and_self, decide_true, fp] <;> exact rfl) (by simp (maxSteps := 1000000) only [go_sem, beq_self_eq_true, Bool.and_self, decide_true, fp] <;> exact rfl) (.of ?_)
    rfl
theorem c4 (l : List Int) (p : Pg) (ok : OkB l) (wp : OkPg p) : PC Tryd.prog 4 [.str (strOf l), pgV p] (.bool true) := by
  refine PC.start 77 Tryd.call4 Tryd.func4 rfl Tryd.ntmps4 Tryd.results4 (by simp only [go_sem]; exact rfl) fun z hz => ?_
  refine AW.regR rfl (by simp (maxSteps := 1000000) only [go_sem, beq_self_eq_true, Bool.and_self, decide_true, eq_self, Bool.not_true, Bool.or_self] <;> exact rfl) (by first | (simp (disch := omega) only [go_sem, w64, wU, beq_self_eq_true, Bool.and_self, decide_true, eq_self, Bool.not_true, Bool.or_self] <;> exact rfl) | exact rfl) ?_
  refine AW.seq ?_
  by_cases hs1 : (l.length : Int) ≤ 8000
  · have q0 : (8000 < (l.length : Int)) = False := eq_false (by omega); have q1 := decide_false
    refine AW.regS rfl ?_
    refine ARN.run1 (by simp (maxSteps := 1000000) only [go_sem, beq_self_eq_true, Bool.and_self, decide_true, eq_self, Bool.not_true, Bool.or_self, hs1, q0, q1] <;> exact rfl) ?_
    refine ARN.pcall (fun hp => c5 p) rfl (by simp (maxSteps := 1000000) only [go_sem, beq_self_eq_true, Bool.and_self, decide_true, eq_self, Bool.not_true, Bool.or_self, hs1, q0, q1] <;> exact rfl) (by simp only [go_sem]) (by simp (maxSteps := 1000000) only [go_sem, beq_self_eq_true, Bool.and_self, decide_true, eq_self, Bool.not_true, Bool.or_self, hs1, q0, q1] <;> exact rfl) ?_
    refine ARN.run1 (by simp (maxSteps := 1000000) only [go_sem, beq_self_eq_true, Bool.and_self, decide_true, eq_self, Bool.not_true, Bool.or_self, hs1, q0, q1] <;> exact rfl) ?_
    refine ARN.fin (by first | (simp (disch := omega) only [go_sem, w64, wU, beq_self_eq_true, Bool.and_self, decide_true, eq_self, Bool.not_true, Bool.or_self, hs1, q0, q1] <;> exact rfl) | exact rfl) ?_
    refine AW.cond (by simp (maxSteps := 1000000) only [go_sem, beq_self_eq_true, Bool.and_self, decide_true, eq_self, Bool.not_true, Bool.or_self, hs1, q0, q1] <;> exact rfl) (fun hc1 => ?_) (fun hc1 => ?_)
    · try simp only [decide_eq_true_eq, decide_eq_false_iff_not, Bool.or_eq_true, Bool.or_eq_false_iff, Bool.and_eq_true, Bool.and_eq_false_imp, Bool.not_eq_true', Bool.not_eq_false'] at hc1
      refine AW.regS rfl ?_
      refine ARN.pcall (fun hp => c6) rfl (by simp (maxSteps := 1000000) only [go_sem, beq_self_eq_true, Bool.and_self, decide_true, eq_self, Bool.not_true, Bool.or_self, hs1, q0, q1] <;> exact rfl) (by simp only [go_sem]) (by simp (maxSteps := 1000000) only [go_sem, beq_self_eq_true, Bool.and_self, decide_true, eq_self, Bool.not_true, Bool.or_self, hs1, q0, q1] <;> exact rfl) ?_
      refine ARN.run1 (by simp (maxSteps := 1000000) only [go_sem, beq_self_eq_true, Bool.and_self, decide_true, eq_self, Bool.not_true, Bool.or_self, hs1, q0, q1] <;> exact rfl) ?_
      refine ARN.fin (by first | (simp (disch := omega) only [go_sem, w64, wU, beq_self_eq_true, Bool.and_self, decide_true, eq_self, Bool.not_true, Bool.or_self, hs1, q0, q1] <;> exact rfl) | exact rfl) ?_
      refine retK.fin rfl (by simp (maxSteps := 1000000) only [go_sem, beq_self_eq_true, Bool.and_self, decide_true, eq_self, Bool.not_true, Bool.or_self, hs1, q0, q1] <;> exact rfl) (by simp (maxSteps := 1000000) only [go_sem, beq_self_eq_true, Bool.and_self, decide_true, eq_self, Bool.not_true, Bool.or_self, hs1, q0, q1] <;> exact rfl) (.of ?_)
      rfl
    · try simp only [decide_eq_true_eq, decide_eq_false_iff_not, Bool.or_eq_true, Bool.or_eq_false_iff, Bool.and_eq_true, Bool.and_eq_false_imp, Bool.not_eq_true', Bool.not_eq_false'] at hc1
      have fp : few p := few_of hc1
      refine AW.skip ?_
      show AW _ _ _ _ _
      refine AW.regS rfl ?_
      refine ARN.run1 (by simp (maxSteps := 1000000) only [go_sem, beq_self_eq_true, Bool.and_self, decide_true, eq_self, Bool.not_true, Bool.or_self, hs1, q0, q1, fp] <;> exact rfl) ?_
      refine ARN.pcall (fun hp => c9 l ok (by omega)) rfl (by simp (maxSteps := 1000000) only [go_sem, beq_self_eq_true, Bool.and_self, decide_true, eq_self, Bool.not_true, Bool.or_self, hs1, q0, q1, fp] <;> exact rfl) (by simp only [go_sem]) (by simp (maxSteps := 1000000) only [go_sem, beq_self_eq_true, Bool.and_self, decide_true, eq_self, Bool.not_true, Bool.or_self, hs1, q0, q1, fp] <;> exact rfl) ?_
      refine ARN.run1 (by simp (maxSteps := 1000000) only [go_sem, beq_self_eq_true, Bool.and_self, decide_true, eq_self, Bool.not_true, Bool.or_self, hs1, q0, q1, fp] <;> exact rfl) ?_
      refine ARN.fin (by first | (simp (disch := omega) only [go_sem, w64, wU, beq_self_eq_true, Bool.and_self, decide_true, eq_self, Bool.not_true, Bool.or_self, hs1, q0, q1, fp] <;> exact rfl) | exact rfl) ?_
      refine AW.regS rfl ?_
      refine ARN.run1 (by simp (maxSteps := 1000000) only [go_sem, beq_self_eq_true, Bool.and_self, decide_true, eq_self, Bool.not_true, Bool.or_self, hs1, q0, q1, fp] <;> exact rfl) ?_
      refine ARN.pcall (fun hp => c10 l ok (by omega)) rfl (by simp (maxSteps := 1000000) only [go_sem, beq_self_eq_true, Bool.and_self, decide_true, eq_self, Bool.not_true, Bool.or_self, hs1, q0, q1, fp] <;> exact rfl) (by simp only [go_sem]) (by simp (maxSteps := 1000000) only [go_sem, beq_self_eq_true, Bool.and_self, decide_true, eq_self, Bool.not_true, Bool.or_self, hs1, q0, q1, fp] <;> exact rfl) ?_
      refine ARN.run1 (by simp (maxSteps := 1000000) only [go_sem, beq_self_eq_true, Bool.and_self, decide_true, eq_self, Bool.not_true, Bool.or_self, hs1, q0, q1, fp] <;> exact rfl) ?_
      refine ARN.fin (by first | (simp (disch := omega) only [go_sem, w64, wU, beq_self_eq_true, Bool.and_self, decide_true, eq_self, Bool.not_true, Bool.or_self, hs1, q0, q1, fp] <;> exact rfl) | exact rfl) ?_
      refine AW.seq ?_
      refine AW.regS rfl ?_
      refine ARN.run1 (by simp (maxSteps := 1000000) only [go_sem, beq_self_eq_true, Bool.and_self, decide_true, eq_self, Bool.not_true, Bool.or_self, hs1, q0, q1, fp] <;> exact rfl) ?_
      refine ARN.pcall (fun hp => c11 (loadL l).1 (loadL l).1 (load_sm ok) (load_sm ok)) rfl (by simp (maxSteps := 1000000) only [go_sem, beq_self_eq_true, Bool.and_self, decide_true, eq_self, Bool.not_true, Bool.or_self, hs1, q0, q1, fp] <;> exact rfl) (by simp only [go_sem]) (by simp (maxSteps := 1000000) only [go_sem, beq_self_eq_true, Bool.and_self, decide_true, eq_self, Bool.not_true, Bool.or_self, hs1, q0, q1, fp] <;> exact rfl) ?_
      refine ARN.run1 (by simp (maxSteps := 1000000) only [go_sem, beq_self_eq_true, Bool.and_self, decide_true, eq_self, Bool.not_true, Bool.or_self, hs1, q0, q1, fp] <;> exact rfl) ?_
      refine ARN.fin (by first | (simp (disch := omega) only [go_sem, w64, wU, beq_self_eq_true, Bool.and_self, decide_true, eq_self, Bool.not_true, Bool.or_self, hs1, q0, q1, fp] <;> exact rfl) | exact rfl) ?_
      refine AW.condF (by simp (maxSteps := 1000000) only [go_sem, beq_self_eq_true, Bool.and_self, decide_true, eq_self, Bool.not_true, Bool.or_self, hs1, q0, q1, fp] <;> exact rfl) ?_
      refine AW.skip ?_
      show AW _ _ _ _ _
      refine AW.seq ?_
      refine AW.regS rfl ?_
      refine ARN.run1 (by simp (maxSteps := 1000000) only [go_sem, beq_self_eq_true, Bool.and_self, decide_true, eq_self, Bool.not_true, Bool.or_self, hs1, q0, q1, fp] <;> exact rfl) ?_
      refine ARN.pcall (fun hp => c7 p wp (few_sm fp)) rfl (by simp (maxSteps := 1000000) only [go_sem, beq_self_eq_true, Bool.and_self, decide_true, eq_self, Bool.not_true, Bool.or_self, hs1, q0, q1, fp] <;> exact rfl) (by simp only [go_sem]) (by simp (maxSteps := 1000000) only [go_sem, beq_self_eq_true, Bool.and_self, decide_true, eq_self, Bool.not_true, Bool.or_self, hs1, q0, q1, fp] <;> exact rfl) ?_
      refine ARN.run1 (by simp (maxSteps := 1000000) only [go_sem, beq_self_eq_true, Bool.and_self, decide_true, eq_self, Bool.not_true, Bool.or_self, hs1, q0, q1, fp] <;> exact rfl) ?_
      refine ARN.fin (by first | (simp (disch := omega) only [go_sem, w64, wU, beq_self_eq_true, Bool.and_self, decide_true, eq_self, Bool.not_true, Bool.or_self, hs1, q0, q1, fp] <;> exact rfl) | exact rfl) ?_
      refine AW.regR rfl (by simp (maxSteps := 1000000) only [go_sem, beq_self_eq_true, Bool.and_self, decide_true, eq_self, Bool.not_true, Bool.or_self, hs1, q0, q1, fp] <;> exact rfl) (by first | (simp (disch := omega) only [go_sem, w64, wU, beq_self_eq_true, Bool.and_self, decide_true, eq_self, Bool.not_true, Bool.or_self, hs1, q0, q1, fp] <;> exact rfl) | exact rfl) ?_
      refine AW.cond (by simp (maxSteps := 1000000) only [go_sem, beq_self_eq_true, Bool.and_self, decide_true, eq_self, Bool.not_true, Bool.or_self, hs1, q0, q1, fp] <;> exact rfl) (fun hc3 => ?_) (fun hc3 => ?_)
      · try simp only [decide_eq_true_eq, decide_eq_false_iff_not, Bool.or_eq_true, Bool.or_eq_false_iff, Bool.and_eq_true, Bool.and_eq_false_imp, Bool.not_eq_true', Bool.not_eq_false'] at hc3
        refine AW.regS rfl ?_
        refine ARN.pcall (fun hp => c6) rfl (by simp (maxSteps := 1000000) only [go_sem, beq_self_eq_true, Bool.and_self, decide_true, eq_self, Bool.not_true, Bool.or_self, hs1, q0, q1, fp] <;> exact rfl) (by simp only [go_sem]) (by simp (maxSteps := 1000000) only [go_sem, beq_self_eq_true, Bool.and_self, decide_true, eq_self, Bool.not_true, Bool.or_self, hs1, q0, q1, fp] <;> exact rfl) ?_
        refine ARN.run1 (by simp (maxSteps := 1000000) only [go_sem, beq_self_eq_true, Bool.and_self, decide_true, eq_self, Bool.not_true, Bool.or_self, hs1, q0, q1, fp] <;> exact rfl) ?_
        refine ARN.fin (by first | (simp (disch := omega) only [go_sem, w64, wU, beq_self_eq_true, Bool.and_self, decide_true, eq_self, Bool.not_true, Bool.or_self, hs1, q0, q1, fp] <;> exact rfl) | exact rfl) ?_
        refine retK.fin rfl (by simp (maxSteps := 1000000) only [go_sem, beq_self_eq_true, Bool.and_self, decide_true, eq_self, Bool.not_true, Bool.or_self, hs1, q0, q1, fp] <;> exact rfl) (by simp (maxSteps := 1000000) only [go_sem, beq_self_eq_true, Bool.and_self, decide_true, eq_self, Bool.not_true, Bool.or_self, hs1, q0, q1, fp] <;> exact rfl) (.of ?_)
        rfl
      · try simp only [decide_eq_true_eq, decide_eq_false_iff_not, Bool.or_eq_true, Bool.or_eq_false_iff, Bool.and_eq_true, Bool.and_eq_false_imp, Bool.not_eq_true', Bool.not_eq_false'] at hc3
        have hP := check_put hc3
        have hE := put_0 hP.1 hP.2
        have hL := put_len hP.1
        refine AW.skip ?_
        show AW _ _ _ _ _
        refine AW.regS rfl ?_
        refine ARN.run1 (by simp (maxSteps := 1000000) only [go_sem, beq_self_eq_true, Bool.and_self, decide_true, eq_self, Bool.not_true, Bool.or_self, hs1, q0, q1, fp, hP, hE, hL] <;> exact rfl) ?_
        refine ARN.pcall (fun hp => (by have := c12 p (few_sm fp); rw [hE.1, hE.2] at this; exact this)) rfl (by simp (maxSteps := 1000000) only [go_sem, beq_self_eq_true, Bool.and_self, decide_true, eq_self, Bool.not_true, Bool.or_self, hs1, q0, q1, fp, hP, hE, hL] <;> exact rfl) (by simp only [go_sem]) (by simp (maxSteps := 1000000) only [go_sem, beq_self_eq_true, Bool.and_self, decide_true, eq_self, Bool.not_true, Bool.or_self, hs1, q0, q1, fp, hP, hE, hL] <;> exact rfl) ?_
        refine ARN.run1 (by simp (maxSteps := 1000000) only [go_sem, beq_self_eq_true, Bool.and_self, decide_true, eq_self, Bool.not_true, Bool.or_self, hs1, q0, q1, fp, hP, hE, hL] <;> exact rfl) ?_
        refine ARN.fin (by first | (simp (disch := omega) only [go_sem, w64, wU, beq_self_eq_true, Bool.and_self, decide_true, eq_self, Bool.not_true, Bool.or_self, hs1, q0, q1, fp, hP, hE, hL] <;> exact rfl) | exact rfl) ?_
        refine AW.regS rfl ?_
        refine ARN.run1 (by simp (maxSteps := 1000000) only [go_sem, beq_self_eq_true, Bool.and_self, decide_true, eq_self, Bool.not_true, Bool.or_self, hs1, q0, q1, fp, hP, hE, hL] <;> exact rfl) ?_
        refine ARN.pcall (fun hp => (by have := c9 (putL p) (put_ok hP.1 hP.2) (by omega); rw [load_put wp hc3] at this; exact this)) rfl (by simp (maxSteps := 1000000) only [go_sem, beq_self_eq_true, Bool.and_self, decide_true, eq_self, Bool.not_true, Bool.or_self, hs1, q0, q1, fp, hP, hE, hL] <;> exact rfl) (by simp only [go_sem]) (by simp (maxSteps := 1000000) only [go_sem, beq_self_eq_true, Bool.and_self, decide_true, eq_self, Bool.not_true, Bool.or_self, hs1, q0, q1, fp, hP, hE, hL] <;> exact rfl) ?_
        refine ARN.run1 (by simp (maxSteps := 1000000) only [go_sem, beq_self_eq_true, Bool.and_self, decide_true, eq_self, Bool.not_true, Bool.or_self, hs1, q0, q1, fp, hP, hE, hL] <;> exact rfl) ?_
        refine ARN.fin (by first | (simp (disch := omega) only [go_sem, w64, wU, beq_self_eq_true, Bool.and_self, decide_true, eq_self, Bool.not_true, Bool.or_self, hs1, q0, q1, fp, hP, hE, hL] <;> exact rfl) | exact rfl) ?_
        refine AW.regS rfl ?_
        refine ARN.run1 (by simp (maxSteps := 1000000) only [go_sem, beq_self_eq_true, Bool.and_self, decide_true, eq_self, Bool.not_true, Bool.or_self, hs1, q0, q1, fp, hP, hE, hL] <;> exact rfl) ?_
        refine ARN.pcall (fun hp => c11 p p (few_sm fp) (few_sm fp)) rfl (by simp (maxSteps := 1000000) only [go_sem, beq_self_eq_true, Bool.and_self, decide_true, eq_self, Bool.not_true, Bool.or_self, hs1, q0, q1, fp, hP, hE, hL] <;> exact rfl) (by simp only [go_sem]) (by simp (maxSteps := 1000000) only [go_sem, beq_self_eq_true, Bool.and_self, decide_true, eq_self, Bool.not_true, Bool.or_self, hs1, q0, q1, fp, hP, hE, hL] <;> exact rfl) ?_
        refine ARN.run1 (by simp (maxSteps := 1000000) only [go_sem, beq_self_eq_true, Bool.and_self, decide_true, eq_self, Bool.not_true, Bool.or_self, hs1, q0, q1, fp, hP, hE, hL] <;> exact rfl) ?_
        refine ARN.pcall (fun hp => c6) rfl (by simp (maxSteps := 1000000) only [go_sem, beq_self_eq_true, Bool.and_self, decide_true, eq_self, Bool.not_true, Bool.or_self, hs1, q0, q1, fp, hP, hE, hL] <;> exact rfl) (by simp only [go_sem]) (by simp (maxSteps := 1000000) only [go_sem, beq_self_eq_true, Bool.and_self, decide_true, eq_self, Bool.not_true, Bool.or_self, hs1, q0, q1, fp, hP, hE, hL] <;> exact rfl) ?_
        refine ARN.run1 (by simp (maxSteps := 1000000) only [go_sem, beq_self_eq_true, Bool.and_self, decide_true, eq_self, Bool.not_true, Bool.or_self, hs1, q0, q1, fp, hP, hE, hL] <;> exact rfl) ?_
        refine ARN.fin (by first | (simp (disch := omega) only [go_sem, w64, wU, beq_self_eq_true, Bool.and_self, decide_true, eq_self, Bool.not_true, Bool.or_self, hs1, q0, q1, fp, hP, hE, hL] <;> exact rfl) | exact rfl) ?_
        refine retK.fin rfl (by simp (maxSteps := 1000000) only [go_sem, beq_self_eq_true, Bool.and_self, decide_true, eq_self, Bool.not_true, Bool.or_self, hs1, q0, q1, fp, hP, hE, hL] <;> exact rfl) (by simp (maxSteps := 1000000) only [go_sem, beq_self_eq_true, Bool.and_self, decide_true, eq_self, Bool.not_true, Bool.or_self, hs1, q0, q1, fp, hP, hE, hL] <;> exact rfl) (.of ?_)
        rfl
  · have q0 : (8000 < (l.length : Int)) = True := eq_true (by omega)
    have hb1 := decide_eq_false hs1
    refine AW.regS rfl ?_
    refine ARN.run1S (by simp (maxSteps := 1000000) only [go_sem, beq_self_eq_true, Bool.and_self, decide_true, eq_self, Bool.not_true, Bool.or_self, hb1, q0] <;> exact rfl) ?_
    first | (refine ARN.pcall (fun hp => c5 p) rfl (by simp (maxSteps := 1000000) only [go_sem, beq_self_eq_true, Bool.and_self, decide_true, eq_self, Bool.not_true, Bool.or_self, hb1, q0] <;> exact rfl) (by simp only [go_sem]) (by simp (maxSteps := 1000000) only [go_sem, beq_self_eq_true, Bool.and_self, decide_true, eq_self, Bool.not_true, Bool.or_self, hb1, q0] <;> exact rfl) ?_) | skip
    refine ARN.run1S (by simp (maxSteps := 1000000) only [go_sem, beq_self_eq_true, Bool.and_self, decide_true, eq_self, Bool.not_true, Bool.or_self, hb1, q0] <;> exact rfl) ?_
    refine ARN.fin (by first | (simp (disch := omega) only [go_sem, w64, wU, beq_self_eq_true, Bool.and_self, decide_true, eq_self, Bool.not_true, Bool.or_self, hb1, q0] <;> exact rfl) | exact rfl) ?_
    refine AW.condT (by simp (maxSteps := 1000000) only [go_sem, beq_self_eq_true, Bool.and_self, decide_true, eq_self, Bool.not_true, Bool.or_self, hb1, q0] <;> exact rfl) ?_
    refine AW.regS rfl ?_
    refine ARN.pcall (fun hp => c6) rfl (by simp (maxSteps := 1000000) only [go_sem, beq_self_eq_true, Bool.and_self, decide_true, eq_self, Bool.not_true, Bool.or_self, hb1, q0] <;> exact rfl) (by simp only [go_sem]) (by simp (maxSteps := 1000000) only [go_sem, beq_self_eq_true, Bool.and_self, decide_true, eq_self, Bool.not_true, Bool.or_self, hb1, q0] <;> exact rfl) ?_
    refine ARN.run1 (by simp (maxSteps := 1000000) only [go_sem, beq_self_eq_true, Bool.and_self, decide_true, eq_self, Bool.not_true, Bool.or_self, hb1, q0] <;> exact rfl) ?_
    refine ARN.fin (by first | (simp (disch := omega) only [go_sem, w64, wU, beq_self_eq_true, Bool.and_self, decide_true, eq_self, Bool.not_true, Bool.or_self, hb1, q0] <;> exact rfl) | exact rfl) ?_
    refine retK.fin rfl (by simp (maxSteps := 1000000) only [go_sem, beq_self_eq_true, Bool.and_self, decide_true, eq_self, Bool.not_true, Bool.or_self, hb1, q0] <;> exact rfl) (by simp (maxSteps := 1000000) only [go_sem, beq_self_eq_true, Bool.and_self, decide_true, eq_self, Bool.not_true, Bool.or_self, hb1, q0] <;> exact rfl) (.of ?_)
    rfl
end Go.Ab.Tryd
