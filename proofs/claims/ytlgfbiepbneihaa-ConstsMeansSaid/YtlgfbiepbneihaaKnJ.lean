/- Facts of each place: the laws. -/
import Derived.Test.YtlgfbiepbneihaaKnI
import Derived.Test.YtlgfbiepbneihaaQF
import Derived.Test.YtlgfbiepbneihaaVmG
namespace Go.Ab.Try
open Go.Proofs Go.Ab
set_option linter.unusedVariables false
set_option linter.unusedSimpArgs false
set_option linter.unnecessarySimpa false
set_option maxRecDepth 100000
theorem c41x : PC Try.prog 41 [.lst true 5 (exK.map inR)] (.lst false 17 (knE.map fR)) := by
  have := (c41 exK w_exK (by decide)).arg (ps := [.lst true 5 (exK.map inR)]) ⟨Sub.full _ _ _, trivial⟩
  rwa [known_exK] at this
def k2f : Fa := ⟨true, ⟨true, true, true, true, true, true, true, true⟩, ⟨0, 5, 5, 0, 0, 0, 0, 0⟩⟩
theorem k2w : ∀ j, InR8 j → W64 (k2f.val.get j) := fun j hj => by rcases hj.cases with rfl | rfl | rfl | rfl | rfl | rfl | rfl | rfl <;> (unfold W64; decide)
set_option maxHeartbeats 8000000 in
theorem c40  : PC Try.prog 40 [] (.bool true) := by
  refine PC.start 92 Try.call40 Try.func40 rfl Try.ntmps40 Try.results40 (by simp only [go_sem]; exact rfl) fun z hz => ?_
  refine AW.regR rfl (by simp (maxSteps := 1000000) only [go_sem, List.append_eq, List.cons_append, List.nil_append, List.take_succ_cons, List.take_zero, List.drop_succ_cons, List.drop_zero] <;> exact rfl) (by first | (simp (disch := omega) only [go_sem, w64, wU, List.append_eq, List.cons_append, List.nil_append, List.take_succ_cons, List.take_zero, List.drop_succ_cons, List.drop_zero] <;> exact rfl) | exact rfl) ?_
  refine AW.regS rfl ?_
  refine ARN.run1 (by simp (maxSteps := 1000000) only [go_sem, List.append_eq, List.cons_append, List.nil_append, List.take_succ_cons, List.take_zero, List.drop_succ_cons, List.drop_zero] <;> exact rfl) ?_
  refine ARN.pcall (fun hp => c41x) rfl (by simp (maxSteps := 1000000) only [go_sem, List.append_eq, List.cons_append, List.nil_append, List.take_succ_cons, List.take_zero, List.drop_succ_cons, List.drop_zero] <;> exact rfl) (by simp only [go_sem, List.append_eq, List.cons_append, List.nil_append, List.take_succ_cons, List.take_zero, List.drop_succ_cons, List.drop_zero]) (by simp (maxSteps := 1000000) only [go_sem, List.append_eq, List.cons_append, List.nil_append, List.take_succ_cons, List.take_zero, List.drop_succ_cons, List.drop_zero] <;> exact rfl) ?_
  refine ARN.run1 (by simp (maxSteps := 1000000) only [go_sem, List.append_eq, List.cons_append, List.nil_append, List.take_succ_cons, List.take_zero, List.drop_succ_cons, List.drop_zero] <;> exact rfl) ?_
  refine ARN.fin (by first | (simp (disch := omega) only [go_sem, w64, wU, List.append_eq, List.cons_append, List.nil_append, List.take_succ_cons, List.take_zero, List.drop_succ_cons, List.drop_zero] <;> exact rfl) | exact rfl) ?_
  refine AW.seq ?_
  refine AW.regR rfl (by simp (maxSteps := 1000000) only [go_sem, List.append_eq, List.cons_append, List.nil_append, List.take_succ_cons, List.take_zero, List.drop_succ_cons, List.drop_zero] <;> exact rfl) (by first | (simp (disch := omega) only [go_sem, w64, wU, List.append_eq, List.cons_append, List.nil_append, List.take_succ_cons, List.take_zero, List.drop_succ_cons, List.drop_zero] <;> exact rfl) | exact rfl) ?_
  refine AW.condF (by simp (maxSteps := 1000000) only [go_sem, List.append_eq, List.cons_append, List.nil_append, List.take_succ_cons, List.take_zero, List.drop_succ_cons, List.drop_zero] <;> exact rfl) ?_
  refine AW.skip ?_
  show AW _ _ _ _ _
  refine AW.regS rfl ?_
  refine ARN.run1 (by simp (maxSteps := 1000000) only [go_sem, List.append_eq, List.cons_append, List.nil_append, List.take_succ_cons, List.take_zero, List.drop_succ_cons, List.drop_zero] <;> exact rfl) ?_
  refine ARN.pcall (fun hp => c67 3 0 2 2 1 k2f ⟨by decide, by decide⟩ k2w) rfl (by simp (maxSteps := 1000000) only [go_sem, List.append_eq, List.cons_append, List.nil_append, List.take_succ_cons, List.take_zero, List.drop_succ_cons, List.drop_zero] <;> exact rfl) (by simp only [go_sem, List.append_eq, List.cons_append, List.nil_append, List.take_succ_cons, List.take_zero, List.drop_succ_cons, List.drop_zero]) (by simp (maxSteps := 1000000) only [go_sem, List.append_eq, List.cons_append, List.nil_append, List.take_succ_cons, List.take_zero, List.drop_succ_cons, List.drop_zero] <;> exact rfl) ?_
  refine ARN.run1 (by simp (maxSteps := 1000000) only [go_sem, List.append_eq, List.cons_append, List.nil_append, List.take_succ_cons, List.take_zero, List.drop_succ_cons, List.drop_zero] <;> exact rfl) ?_
  refine ARN.fin (by first | (simp (disch := omega) only [go_sem, w64, wU, List.append_eq, List.cons_append, List.nil_append, List.take_succ_cons, List.take_zero, List.drop_succ_cons, List.drop_zero] <;> exact rfl) | exact rfl) ?_
  refine AW.regDS follows (by kernel_rfl) ?_
  refine ARE.runK 8 (by simp (maxSteps := 1000000) only [go_sem, List.append_eq, List.cons_append, List.nil_append, List.take_succ_cons, List.take_zero, List.drop_succ_cons, List.drop_zero] <;> exact rfl) ?_
  refine ARE.elx rfl (by simp (maxSteps := 1000000) only [go_sem, List.append_eq, List.cons_append, List.nil_append, List.take_succ_cons, List.take_zero, List.drop_succ_cons, List.drop_zero] <;> exact rfl) (by simp (maxSteps := 1000000) only [go_sem, List.append_eq, List.cons_append, List.nil_append, List.take_succ_cons, List.take_zero, List.drop_succ_cons, List.drop_zero] <;> exact rfl) (by simp (maxSteps := 1000000) only [go_sem, List.append_eq, List.cons_append, List.nil_append, List.take_succ_cons, List.take_zero, List.drop_succ_cons, List.drop_zero] <;> exact rfl) (by simp (maxSteps := 1000000) only [go_sem, List.append_eq, List.cons_append, List.nil_append, List.take_succ_cons, List.take_zero, List.drop_succ_cons, List.drop_zero] <;> exact rfl) (by simp (maxSteps := 1000000) only [go_sem, List.append_eq, List.cons_append, List.nil_append, List.take_succ_cons, List.take_zero, List.drop_succ_cons, List.drop_zero] <;> exact rfl) ⟨by decide, by decide⟩ (by decide) (by simp (maxSteps := 1000000) only [go_sem, List.append_eq, List.cons_append, List.nil_append, List.take_succ_cons, List.take_zero, List.drop_succ_cons, List.drop_zero] <;> exact rfl) ?_
  refine ARE.runK 6 (by simp (maxSteps := 1000000) only [go_sem, List.append_eq, List.cons_append, List.nil_append, List.take_succ_cons, List.take_zero, List.drop_succ_cons, List.drop_zero] <;> exact rfl) ?_
  refine ARE.elx rfl (by simp (maxSteps := 1000000) only [go_sem, List.append_eq, List.cons_append, List.nil_append, List.take_succ_cons, List.take_zero, List.drop_succ_cons, List.drop_zero] <;> exact rfl) (by simp (maxSteps := 1000000) only [go_sem, List.append_eq, List.cons_append, List.nil_append, List.take_succ_cons, List.take_zero, List.drop_succ_cons, List.drop_zero] <;> exact rfl) (by simp (maxSteps := 1000000) only [go_sem, List.append_eq, List.cons_append, List.nil_append, List.take_succ_cons, List.take_zero, List.drop_succ_cons, List.drop_zero] <;> exact rfl) (by simp (maxSteps := 1000000) only [go_sem, List.append_eq, List.cons_append, List.nil_append, List.take_succ_cons, List.take_zero, List.drop_succ_cons, List.drop_zero] <;> exact rfl) (by simp (maxSteps := 1000000) only [go_sem, List.append_eq, List.cons_append, List.nil_append, List.take_succ_cons, List.take_zero, List.drop_succ_cons, List.drop_zero] <;> exact rfl) ⟨by decide, by decide⟩ (by decide) (by simp (maxSteps := 1000000) only [go_sem, List.append_eq, List.cons_append, List.nil_append, List.take_succ_cons, List.take_zero, List.drop_succ_cons, List.drop_zero] <;> exact rfl) ?_
  refine ARE.runK 7 (by simp (maxSteps := 1000000) only [go_sem, List.append_eq, List.cons_append, List.nil_append, List.take_succ_cons, List.take_zero, List.drop_succ_cons, List.drop_zero] <;> exact rfl) ?_
  refine ARE.elx rfl (by simp (maxSteps := 1000000) only [go_sem, List.append_eq, List.cons_append, List.nil_append, List.take_succ_cons, List.take_zero, List.drop_succ_cons, List.drop_zero] <;> exact rfl) (by simp (maxSteps := 1000000) only [go_sem, List.append_eq, List.cons_append, List.nil_append, List.take_succ_cons, List.take_zero, List.drop_succ_cons, List.drop_zero] <;> exact rfl) (by simp (maxSteps := 1000000) only [go_sem, List.append_eq, List.cons_append, List.nil_append, List.take_succ_cons, List.take_zero, List.drop_succ_cons, List.drop_zero] <;> exact rfl) (by simp (maxSteps := 1000000) only [go_sem, List.append_eq, List.cons_append, List.nil_append, List.take_succ_cons, List.take_zero, List.drop_succ_cons, List.drop_zero] <;> exact rfl) (by simp (maxSteps := 1000000) only [go_sem, List.append_eq, List.cons_append, List.nil_append, List.take_succ_cons, List.take_zero, List.drop_succ_cons, List.drop_zero] <;> exact rfl) ⟨by decide, by decide⟩ (by decide) (by simp (maxSteps := 1000000) only [go_sem, List.append_eq, List.cons_append, List.nil_append, List.take_succ_cons, List.take_zero, List.drop_succ_cons, List.drop_zero] <;> exact rfl) ?_
  refine ARE.runK 7 (by simp (maxSteps := 1000000) only [go_sem, List.append_eq, List.cons_append, List.nil_append, List.take_succ_cons, List.take_zero, List.drop_succ_cons, List.drop_zero] <;> exact rfl) ?_
  refine ARE.elx rfl (by simp (maxSteps := 1000000) only [go_sem, List.append_eq, List.cons_append, List.nil_append, List.take_succ_cons, List.take_zero, List.drop_succ_cons, List.drop_zero] <;> exact rfl) (by simp (maxSteps := 1000000) only [go_sem, List.append_eq, List.cons_append, List.nil_append, List.take_succ_cons, List.take_zero, List.drop_succ_cons, List.drop_zero] <;> exact rfl) (by simp (maxSteps := 1000000) only [go_sem, List.append_eq, List.cons_append, List.nil_append, List.take_succ_cons, List.take_zero, List.drop_succ_cons, List.drop_zero] <;> exact rfl) (by simp (maxSteps := 1000000) only [go_sem, List.append_eq, List.cons_append, List.nil_append, List.take_succ_cons, List.take_zero, List.drop_succ_cons, List.drop_zero] <;> exact rfl) (by simp (maxSteps := 1000000) only [go_sem, List.append_eq, List.cons_append, List.nil_append, List.take_succ_cons, List.take_zero, List.drop_succ_cons, List.drop_zero] <;> exact rfl) ⟨by decide, by decide⟩ (by decide) (by simp (maxSteps := 1000000) only [go_sem, List.append_eq, List.cons_append, List.nil_append, List.take_succ_cons, List.take_zero, List.drop_succ_cons, List.drop_zero] <;> exact rfl) ?_
  refine ARE.runK 6 (by simp (maxSteps := 1000000) only [go_sem, List.append_eq, List.cons_append, List.nil_append, List.take_succ_cons, List.take_zero, List.drop_succ_cons, List.drop_zero] <;> exact rfl) ?_
  refine ARE.elx rfl (by simp (maxSteps := 1000000) only [go_sem, List.append_eq, List.cons_append, List.nil_append, List.take_succ_cons, List.take_zero, List.drop_succ_cons, List.drop_zero] <;> exact rfl) (by simp (maxSteps := 1000000) only [go_sem, List.append_eq, List.cons_append, List.nil_append, List.take_succ_cons, List.take_zero, List.drop_succ_cons, List.drop_zero] <;> exact rfl) (by simp (maxSteps := 1000000) only [go_sem, List.append_eq, List.cons_append, List.nil_append, List.take_succ_cons, List.take_zero, List.drop_succ_cons, List.drop_zero] <;> exact rfl) (by simp (maxSteps := 1000000) only [go_sem, List.append_eq, List.cons_append, List.nil_append, List.take_succ_cons, List.take_zero, List.drop_succ_cons, List.drop_zero] <;> exact rfl) (by simp (maxSteps := 1000000) only [go_sem, List.append_eq, List.cons_append, List.nil_append, List.take_succ_cons, List.take_zero, List.drop_succ_cons, List.drop_zero] <;> exact rfl) ⟨by decide, by decide⟩ (by decide) (by simp (maxSteps := 1000000) only [go_sem, List.append_eq, List.cons_append, List.nil_append, List.take_succ_cons, List.take_zero, List.drop_succ_cons, List.drop_zero] <;> exact rfl) ?_
  refine ARE.runK 7 (by simp (maxSteps := 1000000) only [go_sem, List.append_eq, List.cons_append, List.nil_append, List.take_succ_cons, List.take_zero, List.drop_succ_cons, List.drop_zero] <;> exact rfl) ?_
  refine ARE.elx rfl (by simp (maxSteps := 1000000) only [go_sem, List.append_eq, List.cons_append, List.nil_append, List.take_succ_cons, List.take_zero, List.drop_succ_cons, List.drop_zero] <;> exact rfl) (by simp (maxSteps := 1000000) only [go_sem, List.append_eq, List.cons_append, List.nil_append, List.take_succ_cons, List.take_zero, List.drop_succ_cons, List.drop_zero] <;> exact rfl) (by simp (maxSteps := 1000000) only [go_sem, List.append_eq, List.cons_append, List.nil_append, List.take_succ_cons, List.take_zero, List.drop_succ_cons, List.drop_zero] <;> exact rfl) (by simp (maxSteps := 1000000) only [go_sem, List.append_eq, List.cons_append, List.nil_append, List.take_succ_cons, List.take_zero, List.drop_succ_cons, List.drop_zero] <;> exact rfl) (by simp (maxSteps := 1000000) only [go_sem, List.append_eq, List.cons_append, List.nil_append, List.take_succ_cons, List.take_zero, List.drop_succ_cons, List.drop_zero] <;> exact rfl) ⟨by decide, by decide⟩ (by decide) (by simp (maxSteps := 1000000) only [go_sem, List.append_eq, List.cons_append, List.nil_append, List.take_succ_cons, List.take_zero, List.drop_succ_cons, List.drop_zero] <;> exact rfl) ?_
  refine ARE.runK 7 (by simp (maxSteps := 1000000) only [go_sem, List.append_eq, List.cons_append, List.nil_append, List.take_succ_cons, List.take_zero, List.drop_succ_cons, List.drop_zero] <;> exact rfl) ?_
  refine ARE.elx rfl (by simp (maxSteps := 1000000) only [go_sem, List.append_eq, List.cons_append, List.nil_append, List.take_succ_cons, List.take_zero, List.drop_succ_cons, List.drop_zero] <;> exact rfl) (by simp (maxSteps := 1000000) only [go_sem, List.append_eq, List.cons_append, List.nil_append, List.take_succ_cons, List.take_zero, List.drop_succ_cons, List.drop_zero] <;> exact rfl) (by simp (maxSteps := 1000000) only [go_sem, List.append_eq, List.cons_append, List.nil_append, List.take_succ_cons, List.take_zero, List.drop_succ_cons, List.drop_zero] <;> exact rfl) (by simp (maxSteps := 1000000) only [go_sem, List.append_eq, List.cons_append, List.nil_append, List.take_succ_cons, List.take_zero, List.drop_succ_cons, List.drop_zero] <;> exact rfl) (by simp (maxSteps := 1000000) only [go_sem, List.append_eq, List.cons_append, List.nil_append, List.take_succ_cons, List.take_zero, List.drop_succ_cons, List.drop_zero] <;> exact rfl) ⟨by decide, by decide⟩ (by decide) (by simp (maxSteps := 1000000) only [go_sem, List.append_eq, List.cons_append, List.nil_append, List.take_succ_cons, List.take_zero, List.drop_succ_cons, List.drop_zero] <;> exact rfl) ?_
  refine ARE.run1 (by simp (maxSteps := 1000000) only [go_sem, List.append_eq, List.cons_append, List.nil_append, List.take_succ_cons, List.take_zero, List.drop_succ_cons, List.drop_zero] <;> exact rfl) ?_
  refine ARE.pcall (fun hp => c68 botF (stepF 3 0 2 2 1 k2f)) rfl (by simp (maxSteps := 1000000) only [go_sem, List.append_eq, List.cons_append, List.nil_append, List.take_succ_cons, List.take_zero, List.drop_succ_cons, List.drop_zero] <;> exact rfl) (by simp only [go_sem, List.append_eq, List.cons_append, List.nil_append, List.take_succ_cons, List.take_zero, List.drop_succ_cons, List.drop_zero]) (by simp (maxSteps := 1000000) only [go_sem, List.append_eq, List.cons_append, List.nil_append, List.take_succ_cons, List.take_zero, List.drop_succ_cons, List.drop_zero] <;> exact rfl) ?_
  refine ARE.run1 (by simp (maxSteps := 1000000) only [go_sem, List.append_eq, List.cons_append, List.nil_append, List.take_succ_cons, List.take_zero, List.drop_succ_cons, List.drop_zero] <;> exact rfl) ?_
  refine ARE.fin [0, 1, 3, 7, 15, 31, 63, 127, 255, 511, 1023, 2047, 4095, 8191, 16383, 32767, 65535, 131071, 262143, 524287, 1048575, 2097151, 4194303, 8388607, 16777215, 33554431, 67108863, 134217727, 268435455, 536870911, 1073741823, 2147483647, 4294967295, 8589934591, 17179869183, 34359738367, 68719476735, 137438953471, 274877906943, 549755813887, 1099511627775, 2199023255551, 4398046511103, 8796093022207, 17592186044415, 35184372088831, 70368744177663, 140737488355327, 281474976710655, 562949953421311, 1125899906842623, 2251799813685247, 4503599627370495, 9007199254740991, 18014398509481983, 36028797018963967, 72057594037927935, 144115188075855871, 288230376151711743, 576460752303423487, 1152921504606846975, 2305843009213693951, 4611686018427387903, 9223372036854775807, 18446744073709551615, 36893488147419103231, 73786976294838206463, 147573952589676412927, 295147905179352825855, 590295810358705651711, 590295810358705651711, 2361183241434822606847, 590295810358705651711, 9444732965739290427391, 18889465931478580854783, 37778931862957161709567] _ (by kernel_rfl) (by simp (maxSteps := 1000000) only [go_sem, List.append_eq, List.cons_append, List.nil_append, List.take_succ_cons, List.take_zero, List.drop_succ_cons, List.drop_zero] <;> exact rfl) (by kernel_rfl) (by first | (simp (disch := omega) only [go_sem, w64, wU, List.append_eq, List.cons_append, List.nil_append, List.take_succ_cons, List.take_zero, List.drop_succ_cons, List.drop_zero] <;> exact rfl) | exact rfl) ?_
  refine retK.fin rfl (by simp (maxSteps := 1000000) only [go_sem, List.append_eq, List.cons_append, List.nil_append, List.take_succ_cons, List.take_zero, List.drop_succ_cons, List.drop_zero] <;> exact rfl) (by simp (maxSteps := 1000000) only [go_sem, List.append_eq, List.cons_append, List.nil_append, List.take_succ_cons, List.take_zero, List.drop_succ_cons, List.drop_zero] <;> exact rfl) (.of ?_)
  exact congrArg PV.bool (by decide +kernel)
theorem c8 (code : List Ins) (hc : OkC code) : PC Try.prog 8 [.lst false 5 (code.map inR)] (.bool true) := by
  refine PC.start 35 Try.call8 Try.func8 rfl Try.ntmps8 Try.results8 (by simp only [go_sem]; exact rfl) fun z hz => ?_
  refine AW.regR rfl (by simp (maxSteps := 1000000) only [go_sem, beq_self_eq_true, Bool.and_self, Bool.not_true, Bool.or_self, decide_true, eq_self_iff_true] <;> exact rfl) (by first | (simp (disch := omega) only [go_sem, w64, wU, beq_self_eq_true, Bool.and_self, Bool.not_true, Bool.or_self, decide_true, eq_self_iff_true] <;> exact rfl) | exact rfl) ?_
  refine AW.seq ?_
  refine AW.regR rfl (by simp (maxSteps := 1000000) only [go_sem, beq_self_eq_true, Bool.and_self, Bool.not_true, Bool.or_self, decide_true, eq_self_iff_true] <;> exact rfl) (by first | (simp (disch := omega) only [go_sem, w64, wU, beq_self_eq_true, Bool.and_self, Bool.not_true, Bool.or_self, decide_true, eq_self_iff_true] <;> exact rfl) | exact rfl) ?_
  refine AW.cond (by simp (maxSteps := 1000000) only [go_sem, beq_self_eq_true, Bool.and_self, Bool.not_true, Bool.or_self, decide_true, eq_self_iff_true] <;> exact rfl) (fun hc1 => ?_) (fun hc1 => ?_)
  · try simp only [decide_eq_true_eq, decide_eq_false_iff_not, Bool.or_eq_true, Bool.or_eq_false_iff, Bool.and_eq_true, Bool.and_eq_false_imp, Bool.not_eq_true', Bool.not_eq_false'] at hc1
    refine AW.regS rfl ?_
    refine ARN.pcall (fun hp => c40) rfl (by simp (maxSteps := 1000000) only [go_sem, beq_self_eq_true, Bool.and_self, Bool.not_true, Bool.or_self, decide_true, eq_self_iff_true] <;> exact rfl) (by simp only [go_sem]) (by simp (maxSteps := 1000000) only [go_sem, beq_self_eq_true, Bool.and_self, Bool.not_true, Bool.or_self, decide_true, eq_self_iff_true] <;> exact rfl) ?_
    refine ARN.run1 (by simp (maxSteps := 1000000) only [go_sem, beq_self_eq_true, Bool.and_self, Bool.not_true, Bool.or_self, decide_true, eq_self_iff_true] <;> exact rfl) ?_
    refine ARN.fin (by first | (simp (disch := omega) only [go_sem, w64, wU, beq_self_eq_true, Bool.and_self, Bool.not_true, Bool.or_self, decide_true, eq_self_iff_true] <;> exact rfl) | exact rfl) ?_
    refine retK.fin rfl (by simp (maxSteps := 1000000) only [go_sem, beq_self_eq_true, Bool.and_self, Bool.not_true, Bool.or_self, decide_true, eq_self_iff_true] <;> exact rfl) (by simp (maxSteps := 1000000) only [go_sem, beq_self_eq_true, Bool.and_self, Bool.not_true, Bool.or_self, decide_true, eq_self_iff_true] <;> exact rfl) (.of ?_)
    rfl
  · try simp only [decide_eq_true_eq, decide_eq_false_iff_not, Bool.or_eq_true, Bool.or_eq_false_iff, Bool.and_eq_true, Bool.and_eq_false_imp, Bool.not_eq_true', Bool.not_eq_false'] at hc1
    refine AW.skip ?_
    show AW _ _ _ _ _
    refine AW.regS rfl ?_
    refine ARN.run1 (by simp (maxSteps := 1000000) only [go_sem, beq_self_eq_true, Bool.and_self, Bool.not_true, Bool.or_self, decide_true, eq_self_iff_true] <;> exact rfl) ?_
    refine ARN.pcall (fun hp => c41 code hc (by omega)) rfl (by simp (maxSteps := 1000000) only [go_sem, beq_self_eq_true, Bool.and_self, Bool.not_true, Bool.or_self, decide_true, eq_self_iff_true] <;> exact rfl) (by simp only [go_sem]) (by simp (maxSteps := 1000000) only [go_sem, beq_self_eq_true, Bool.and_self, Bool.not_true, Bool.or_self, decide_true, eq_self_iff_true] <;> exact rfl) ?_
    refine ARN.run1 (by simp (maxSteps := 1000000) only [go_sem, beq_self_eq_true, Bool.and_self, Bool.not_true, Bool.or_self, decide_true, eq_self_iff_true] <;> exact rfl) ?_
    refine ARN.pcall (fun hp => c42 code hc (by omega)) rfl (by simp (maxSteps := 1000000) only [go_sem, beq_self_eq_true, Bool.and_self, Bool.not_true, Bool.or_self, decide_true, eq_self_iff_true] <;> exact rfl) (by simp only [go_sem]) (by simp (maxSteps := 1000000) only [go_sem, beq_self_eq_true, Bool.and_self, Bool.not_true, Bool.or_self, decide_true, eq_self_iff_true] <;> exact rfl) ?_
    refine ARN.run1 (by simp (maxSteps := 1000000) only [go_sem, beq_self_eq_true, Bool.and_self, Bool.not_true, Bool.or_self, decide_true, eq_self_iff_true] <;> exact rfl) ?_
    refine ARN.fin (by first | (simp (disch := omega) only [go_sem, w64, wU, beq_self_eq_true, Bool.and_self, Bool.not_true, Bool.or_self, decide_true, eq_self_iff_true] <;> exact rfl) | exact rfl) ?_
    refine AW.seq ?_
    refine AW.regR rfl (by simp (maxSteps := 1000000) only [go_sem, beq_self_eq_true, Bool.and_self, Bool.not_true, Bool.or_self, decide_true, eq_self_iff_true] <;> exact rfl) (by first | (simp (disch := omega) only [go_sem, w64, wU, beq_self_eq_true, Bool.and_self, Bool.not_true, Bool.or_self, decide_true, eq_self_iff_true] <;> exact rfl) | exact rfl) ?_
    refine AW.condF (by simp (maxSteps := 1000000) only [go_sem, beq_self_eq_true, Bool.and_self, Bool.not_true, Bool.or_self, decide_true, eq_self_iff_true] <;> exact rfl) ?_
    refine AW.skip ?_
    show AW _ _ _ _ _
    refine AW.seq ?_
    refine AW.regR rfl (by simp (maxSteps := 1000000) only [go_sem, beq_self_eq_true, Bool.and_self, Bool.not_true, Bool.or_self, decide_true, eq_self_iff_true] <;> exact rfl) (by first | (simp (disch := omega) only [go_sem, w64, wU, beq_self_eq_true, Bool.and_self, Bool.not_true, Bool.or_self, decide_true, eq_self_iff_true] <;> exact rfl) | exact rfl) ?_
    refine AW.block ?_
    refine AW.loopVh (α := (Int)) (fun (i : (Int)) => [(5, .pv (.int .i64 i))]) (fun (i : (Int)) => (0 ≤ i) ∧ (i ≤ ((knownS code).length : Int))) (fun (i : (Int)) => (((knownS code).length : Int) - i).toNat) 0 ?_ ?_ ?_
    · exact ⟨by omega, by omega⟩
    · refine Wk.sub ?_
      simp (maxSteps := 1000000) (disch := omega) only [go_sem, w64, wU, beq_self_eq_true, Bool.and_self, Bool.not_true, Bool.or_self, decide_true, eq_self_iff_true]
    · rintro i hF _ ht
      simp only [updT, go_sem] at ht
      subst ht
      obtain ⟨h1, h2⟩ := hF
      refine AW.seq ?_
      refine AW.regR rfl (by simp (maxSteps := 1000000) only [go_sem, beq_self_eq_true, Bool.and_self, Bool.not_true, Bool.or_self, decide_true, eq_self_iff_true] <;> exact rfl) (by first | (simp (disch := omega) only [go_sem, w64, wU, beq_self_eq_true, Bool.and_self, Bool.not_true, Bool.or_self, decide_true, eq_self_iff_true] <;> exact rfl) | exact rfl) ?_
      refine AW.cond (by simp (maxSteps := 1000000) only [go_sem, beq_self_eq_true, Bool.and_self, Bool.not_true, Bool.or_self, decide_true, eq_self_iff_true] <;> exact rfl) (fun hc3 => ?_) (fun hc3 => ?_)
      · try simp only [decide_eq_true_eq, decide_eq_false_iff_not, Bool.or_eq_true, Bool.or_eq_false_iff, Bool.and_eq_true, Bool.and_eq_false_imp, Bool.not_eq_true', Bool.not_eq_false'] at hc3
        have g1 : 0 ≤ i := h1
        have g2 : i < ((knownS code).length : Int) := hc3
        have hr : ((knownS code).map fR)[i.toNat]? = some (fR ((knownS code).getD i.toNat botF)) := f_at ⟨h1, hc3⟩
        have hiw : IntKind.i64.wrap (i + 1) = i + 1 := by have := known_len hc (show code.length < 65536 by omega); exact w64 (by omega) (by omega)
        refine AW.skip ?_
        show AW _ _ _ _ _
        refine AW.seq ?_
        refine AW.block ?_
        refine AW.regDS follows (by kernel_rfl) ?_
        refine ARE.run1 (by simp (maxSteps := 1000000) only [go_sem, beq_self_eq_true, Bool.and_self, Bool.not_true, Bool.or_self, decide_true, eq_self_iff_true, g1, g2, hr, hiw] <;> exact rfl) ?_
        refine ARE.fin [0, 0, 3, 7, 0, 0, 48, 112, 255] _ (by kernel_rfl) (by simp (maxSteps := 1000000) only [go_sem, beq_self_eq_true, Bool.and_self, Bool.not_true, Bool.or_self, decide_true, eq_self_iff_true, g1, g2, hr, hiw] <;> exact rfl) (by kernel_rfl) (by first | (simp (disch := omega) only [go_sem, w64, wU, beq_self_eq_true, Bool.and_self, Bool.not_true, Bool.or_self, decide_true, eq_self_iff_true, g1, g2, hr, hiw] <;> exact rfl) | exact rfl) ?_
        refine AW.condF (by simp (maxSteps := 1000000) only [go_sem, beq_self_eq_true, Bool.and_self, Bool.not_true, Bool.or_self, decide_true, eq_self_iff_true, g1, g2, hr, hiw] <;> exact rfl) ?_
        refine AW.skip ?_
        show AW _ _ _ _ _
        refine AW.regR1 rfl (by simp (maxSteps := 1000000) only [go_sem, beq_self_eq_true, Bool.and_self, Bool.not_true, Bool.or_self, decide_true, eq_self_iff_true, g1, g2, hr, hiw] <;> exact rfl) (by first | (simp (disch := omega) only [go_sem, w64, wU, beq_self_eq_true, Bool.and_self, Bool.not_true, Bool.or_self, decide_true, eq_self_iff_true, g1, g2, hr, hiw] <;> exact rfl) | exact rfl) ?_
        refine ⟨(i + 1), ?_, ?_, ?_⟩
        · (try dsimp only); omega
        · exact ⟨by omega, by omega⟩
        · refine Wk.sub ?_
          simp (maxSteps := 1000000) (disch := omega) only [go_sem, w64, wU, beq_self_eq_true, Bool.and_self, Bool.not_true, Bool.or_self, decide_true, eq_self_iff_true, g1, g2, hr, hiw]
      · try simp only [decide_eq_true_eq, decide_eq_false_iff_not, Bool.or_eq_true, Bool.or_eq_false_iff, Bool.and_eq_true, Bool.and_eq_false_imp, Bool.not_eq_true', Bool.not_eq_false'] at hc3
        refine AW.exit ?_
        show AW _ _ _ _ _
        refine AW.regS rfl ?_
        refine ARN.pcall (fun hp => c40) rfl (by simp (maxSteps := 1000000) only [go_sem, beq_self_eq_true, Bool.and_self, Bool.not_true, Bool.or_self, decide_true, eq_self_iff_true] <;> exact rfl) (by simp only [go_sem]) (by simp (maxSteps := 1000000) only [go_sem, beq_self_eq_true, Bool.and_self, Bool.not_true, Bool.or_self, decide_true, eq_self_iff_true] <;> exact rfl) ?_
        refine ARN.run1 (by simp (maxSteps := 1000000) only [go_sem, beq_self_eq_true, Bool.and_self, Bool.not_true, Bool.or_self, decide_true, eq_self_iff_true] <;> exact rfl) ?_
        refine ARN.fin (by first | (simp (disch := omega) only [go_sem, w64, wU, beq_self_eq_true, Bool.and_self, Bool.not_true, Bool.or_self, decide_true, eq_self_iff_true] <;> exact rfl) | exact rfl) ?_
        refine retK.fin rfl (by simp (maxSteps := 1000000) only [go_sem, beq_self_eq_true, Bool.and_self, Bool.not_true, Bool.or_self, decide_true, eq_self_iff_true] <;> exact rfl) (by simp (maxSteps := 1000000) only [go_sem, beq_self_eq_true, Bool.and_self, Bool.not_true, Bool.or_self, decide_true, eq_self_iff_true] <;> exact rfl) (.of ?_)
        rfl
theorem c9 (code : List Ins) (inp D : List Int) (l : List Pn) (e n fuel most : Int) (hc : OkC code) (hii : OkI inp) (hD : ∀ x ∈ D, W64 x) (hl : ∀ p ∈ l, W64 p.2.1) : PC Try.prog 9 [playV code inp D l e n fuel most] (.bool true) := by
  refine PC.start 104 Try.call9 Try.func9 rfl Try.ntmps9 Try.results9 (by simp only [go_sem]; exact rfl) fun z hz => ?_
  refine AW.regR rfl (by simp (maxSteps := 1000000) only [go_sem] <;> exact rfl) (by first | (simp (disch := omega) only [go_sem, w64, wU] <;> exact rfl) | exact rfl) ?_
  refine AW.seq ?_
  refine AW.regS rfl ?_
  refine ARN.run1 (by simp (maxSteps := 1000000) only [go_sem] <;> exact rfl) ?_
  refine ARN.pcall (fun hp => c25 D l e) rfl (by simp (maxSteps := 1000000) only [go_sem] <;> exact rfl) (by simp only [go_sem]) (by simp (maxSteps := 1000000) only [go_sem] <;> exact rfl) ?_
  refine ARN.run1 (by simp (maxSteps := 1000000) only [go_sem] <;> exact rfl) ?_
  refine ARN.fin (by first | (simp (disch := omega) only [go_sem, w64, wU] <;> exact rfl) | exact rfl) ?_
  refine AW.cond (by simp (maxSteps := 1000000) only [go_sem] <;> exact rfl) (fun hc1 => ?_) (fun hc1 => ?_)
  · try simp only [decide_eq_true_eq, decide_eq_false_iff_not, Bool.or_eq_true, Bool.or_eq_false_iff, Bool.and_eq_true, Bool.and_eq_false_imp, Bool.not_eq_true', Bool.not_eq_false'] at hc1
    refine AW.regS rfl ?_
    refine ARN.pcall (fun hp => c40) rfl (by simp (maxSteps := 1000000) only [go_sem] <;> exact rfl) (by simp only [go_sem]) (by simp (maxSteps := 1000000) only [go_sem] <;> exact rfl) ?_
    refine ARN.run1 (by simp (maxSteps := 1000000) only [go_sem] <;> exact rfl) ?_
    refine ARN.fin (by first | (simp (disch := omega) only [go_sem, w64, wU] <;> exact rfl) | exact rfl) ?_
    refine retK.fin rfl (by simp (maxSteps := 1000000) only [go_sem] <;> exact rfl) (by simp (maxSteps := 1000000) only [go_sem] <;> exact rfl) (.of ?_)
    rfl
  · try simp only [decide_eq_true_eq, decide_eq_false_iff_not, Bool.or_eq_true, Bool.or_eq_false_iff, Bool.and_eq_true, Bool.and_eq_false_imp, Bool.not_eq_true', Bool.not_eq_false'] at hc1
    have hln : (knownS code).length = code.length + 1 := known_len hc (by omega)
    have hw1 : IntKind.i64.wrap ((code.length : Int) + 1) = (code.length : Int) + 1 := w64 (by omega) (by omega)
    have heq : (((code.length + 1 : Nat) : Int) = (code.length : Int) + 1) = True := eq_true (by omega)
    have hs : OkS (startS D l e n) 60 := start_ok hD hl hc1.2
    refine AW.skip ?_
    show AW _ _ _ _ _
    refine AW.regS rfl ?_
    refine ARN.run1 (by simp (maxSteps := 1000000) only [go_sem, hln, hw1, heq, hs] <;> exact rfl) ?_
    refine ARN.pcall (fun hp => c41 code hc (by omega)) rfl (by simp (maxSteps := 1000000) only [go_sem, hln, hw1, heq, hs] <;> exact rfl) (by simp only [go_sem]) (by simp (maxSteps := 1000000) only [go_sem, hln, hw1, heq, hs] <;> exact rfl) ?_
    refine ARN.run1 (by simp (maxSteps := 1000000) only [go_sem, hln, hw1, heq, hs] <;> exact rfl) ?_
    refine ARN.fin (by first | (simp (disch := omega) only [go_sem, w64, wU, hln, hw1, heq, hs] <;> exact rfl) | exact rfl) ?_
    refine AW.seq ?_
    refine AW.regR rfl (by simp (maxSteps := 1000000) only [go_sem, hln, hw1, heq, hs] <;> exact rfl) (by first | (simp (disch := omega) only [go_sem, w64, wU, hln, hw1, heq, hs] <;> exact rfl) | exact rfl) ?_
    refine AW.condF (by simp (maxSteps := 1000000) only [go_sem, hln, hw1, heq, hs] <;> exact rfl) ?_
    refine AW.skip ?_
    show AW _ _ _ _ _
    refine AW.regS rfl ?_
    refine ARN.run1 (by simp (maxSteps := 1000000) only [go_sem, hln, hw1, heq, hs] <;> exact rfl) ?_
    refine ARN.pcall (fun hp => c26 D l e n) rfl (by simp (maxSteps := 1000000) only [go_sem, hln, hw1, heq, hs] <;> exact rfl) (by simp only [go_sem]) (by simp (maxSteps := 1000000) only [go_sem, hln, hw1, heq, hs] <;> exact rfl) ?_
    refine ARN.run1 (by simp (maxSteps := 1000000) only [go_sem, hln, hw1, heq, hs] <;> exact rfl) ?_
    refine ARN.fin (by first | (simp (disch := omega) only [go_sem, w64, wU, hln, hw1, heq, hs] <;> exact rfl) | exact rfl) ?_
    refine AW.seq ?_
    refine AW.regR rfl (by simp (maxSteps := 1000000) only [go_sem, hln, hw1, heq, hs] <;> exact rfl) (by first | (simp (disch := omega) only [go_sem, w64, wU, hln, hw1, heq, hs] <;> exact rfl) | exact rfl) ?_
    refine AW.block ?_
    refine AW.loopV (α := (Int) × (St)) (fun ((i, u) : (Int) × (St)) => [(5, .pv (.int .i64 i))]) (fun ((i, u) : (Int) × (St)) => [.box (plA code inp D l e n fuel most), .box (stA u)]) (fun ((i, u) : (Int) × (St)) => (OkS u (60 + i.toNat)) ∧ (0 ≤ i) ∧ (i ≤ 150) ∧ (OnT code u)) (fun ((i, u) : (Int) × (St)) => (150 - i).toNat) (0, startS D l e n) ?_ ?_ ?_
    · exact ⟨hs, by omega, by omega, on_start hc (by omega) D l e n⟩
    · refine Wk.to [] [0, 1] hz (by decide) ?_ ?_
      · simp (maxSteps := 1000000) (disch := omega) only [go_sem, w64, wU, hln, hw1, heq, hs]
      · simp (maxSteps := 1000000) (disch := omega) only [go_sem, w64, wU, hln, hw1, heq, hs]
    · rintro ⟨i, u⟩ hF _ ht _ hh
      simp only [updT, go_sem] at ht hh
      subst ht; subst hh
      obtain ⟨h2, h5, h6, h7⟩ := hF
      refine AW.seq ?_
      refine AW.regR rfl (by simp (maxSteps := 1000000) only [go_sem, hln, hw1, heq, hs] <;> exact rfl) (by first | (simp (disch := omega) only [go_sem, w64, wU, hln, hw1, heq, hs] <;> exact rfl) | exact rfl) ?_
      refine AW.cond (by simp (maxSteps := 1000000) only [go_sem, hln, hw1, heq, hs] <;> exact rfl) (fun hc3 => ?_) (fun hc3 => ?_)
      · try simp only [decide_eq_true_eq, decide_eq_false_iff_not, Bool.or_eq_true, Bool.or_eq_false_iff, Bool.and_eq_true, Bool.and_eq_false_imp, Bool.not_eq_true', Bool.not_eq_false'] at hc3
        refine AW.skip ?_
        show AW _ _ _ _ _
        refine AW.seq ?_
        refine AW.block ?_
        refine AW.seq ?_
        obtain ⟨o0, o1, o2, o3⟩ := h7 hc3.2
        have q1 : 0 ≤ u.pc := o0
        have q2 : decide (u.pc < 0) = false := decide_eq_false (by omega)
        have q3 : decide ((code.length : Int) < u.pc) = false := decide_eq_false (by omega)
        have hra : ((knownS code).map fR)[u.pc.toNat]? = some (fR ((knownS code).getD u.pc.toNat botF)) := f_at ⟨o0, by omega⟩
        have hmet : ((knownS code).getD u.pc.toNat botF).met = true := o2
        refine AW.regR rfl (by simp (maxSteps := 1000000) only [go_sem, hln, hw1, heq, hs, q1, q2, q3, hra, hmet] <;> exact rfl) (by first | (simp (disch := omega) only [go_sem, w64, wU, hln, hw1, heq, hs, q1, q2, q3, hra, hmet] <;> exact rfl) | exact rfl) ?_
        refine AW.condF (by simp (maxSteps := 1000000) only [go_sem, hln, hw1, heq, hs, q1, q2, q3, hra, hmet] <;> exact rfl) ?_
        refine AW.skip ?_
        show AW _ _ _ _ _
        refine AW.seq ?_
        refine AW.regR rfl (by simp (maxSteps := 1000000) only [go_sem, hln, hw1, heq, hs, q1, q2, q3, hra, hmet] <;> exact rfl) (by first | (simp (disch := omega) only [go_sem, w64, wU, hln, hw1, heq, hs, q1, q2, q3, hra, hmet] <;> exact rfl) | exact rfl) ?_
        refine AW.block ?_
        refine AW.loopVh (α := (Int)) (fun (r : (Int)) => [(6, .pv (.int .i64 r))]) (fun (r : (Int)) => (0 ≤ r) ∧ (r ≤ 8)) (fun (r : (Int)) => (8 - r).toNat) 0 ?_ ?_ ?_
        · exact ⟨by omega, by omega⟩
        · refine Wk.sub ?_
          simp (maxSteps := 1000000) (disch := omega) only [go_sem, w64, wU, hln, hw1, heq, hs, q1, q2, q3, hra, hmet]
        · rintro r hF _ ht
          simp only [updT, go_sem] at ht
          subst ht
          obtain ⟨j1, j2⟩ := hF
          refine AW.seq ?_
          refine AW.regR rfl (by simp (maxSteps := 1000000) only [go_sem, hln, hw1, heq, hs, q1, q2, q3, hra, hmet] <;> exact rfl) (by first | (simp (disch := omega) only [go_sem, w64, wU, hln, hw1, heq, hs, q1, q2, q3, hra, hmet] <;> exact rfl) | exact rfl) ?_
          refine AW.cond (by simp (maxSteps := 1000000) only [go_sem, hln, hw1, heq, hs, q1, q2, q3, hra, hmet] <;> exact rfl) (fun hc5 => ?_) (fun hc5 => ?_)
          · try simp only [decide_eq_true_eq, decide_eq_false_iff_not, Bool.or_eq_true, Bool.or_eq_false_iff, Bool.and_eq_true, Bool.and_eq_false_imp, Bool.not_eq_true', Bool.not_eq_false'] at hc5
            have hir : InR8 r := ⟨j1, hc5⟩
            refine AW.skip ?_
            show AW _ _ _ _ _
            refine AW.seq ?_
            refine AW.block ?_
            refine AW.regDS follows (by kernel_rfl) ?_
            refine ARE.runK 6 (by simp (maxSteps := 1000000) only [go_sem, hln, hw1, heq, hs, q1, q2, q3, hra, hmet, hir] <;> exact rfl) ?_
            refine ARE.elx rfl (by simp (maxSteps := 1000000) only [go_sem, hln, hw1, heq, hs, q1, q2, q3, hra, hmet, hir] <;> exact rfl) (by simp (maxSteps := 1000000) only [go_sem, hln, hw1, heq, hs, q1, q2, q3, hra, hmet, hir] <;> exact rfl) (by simp (maxSteps := 1000000) only [go_sem, hln, hw1, heq, hs, q1, q2, q3, hra, hmet, hir] <;> exact rfl) (by simp (maxSteps := 1000000) only [go_sem, hln, hw1, heq, hs, q1, q2, q3, hra, hmet, hir] <;> exact rfl) (by simp (maxSteps := 1000000) only [go_sem, hln, hw1, heq, hs, q1, q2, q3, hra, hmet, hir] <;> exact rfl) ⟨hir.1, hir.2⟩ (by decide) (by simp (maxSteps := 1000000) only [go_sem, hln, hw1, heq, hs, q1, q2, q3, hra, hmet, hir] <;> exact rfl) ?_
            refine ARE.runK 8 (by simp (maxSteps := 1000000) only [go_sem, hln, hw1, heq, hs, q1, q2, q3, hra, hmet, hir] <;> exact rfl) ?_
            refine ARE.elx rfl (by simp (maxSteps := 1000000) only [go_sem, hln, hw1, heq, hs, q1, q2, q3, hra, hmet, hir] <;> exact rfl) (by simp (maxSteps := 1000000) only [go_sem, hln, hw1, heq, hs, q1, q2, q3, hra, hmet, hir] <;> exact rfl) (by simp (maxSteps := 1000000) only [go_sem, hln, hw1, heq, hs, q1, q2, q3, hra, hmet, hir] <;> exact rfl) (by simp (maxSteps := 1000000) only [go_sem, hln, hw1, heq, hs, q1, q2, q3, hra, hmet, hir] <;> exact rfl) (by simp (maxSteps := 1000000) only [go_sem, hln, hw1, heq, hs, q1, q2, q3, hra, hmet, hir] <;> exact rfl) ⟨hir.1, hir.2⟩ (by decide) (by simp (maxSteps := 1000000) only [go_sem, hln, hw1, heq, hs, q1, q2, q3, hra, hmet, hir] <;> exact rfl) ?_
            refine ARE.run1 (by simp (maxSteps := 1000000) only [go_sem, hln, hw1, heq, hs, q1, q2, q3, hra, hmet, hir] <;> exact rfl) ?_
            refine ARE.fin [0, 0, 2, 0, 7, 23, 63, 127, 255, 511, 511, 1535, 511, 4095, 12287, 32767, 65535, 511, 511, 393727, 918015, 2097151, 4194303] _ (by kernel_rfl) (by simp (maxSteps := 1000000) only [go_sem, hln, hw1, heq, hs, q1, q2, q3, hra, hmet, hir] <;> exact rfl) (by kernel_rfl) (by first | (simp (disch := omega) only [go_sem, w64, wU, hln, hw1, heq, hs, q1, q2, q3, hra, hmet, hir] <;> exact rfl) | exact rfl) ?_
            refine AW.cond (by simp (maxSteps := 1000000) only [go_sem, hln, hw1, heq, hs, q1, q2, q3, hra, hmet, hir] <;> exact rfl) (fun hc6 => ?_) (fun hc6 => ?_)
            · try simp only [decide_eq_true_eq, decide_eq_false_iff_not, Bool.or_eq_true, Bool.or_eq_false_iff, Bool.and_eq_true, Bool.and_eq_false_imp, Bool.not_eq_true', Bool.not_eq_false'] at hc6
              exfalso; have := o3 r hir; simp at hc6; exact hc6.2 (this hc6.1)
            · try simp only [decide_eq_true_eq, decide_eq_false_iff_not, Bool.or_eq_true, Bool.or_eq_false_iff, Bool.and_eq_true, Bool.and_eq_false_imp, Bool.not_eq_true', Bool.not_eq_false'] at hc6
              refine AW.skip ?_
              show AW _ _ _ _ _
              refine AW.regR1 rfl (by simp (maxSteps := 1000000) only [go_sem, hln, hw1, heq, hs, q1, q2, q3, hra, hmet, hir] <;> exact rfl) (by first | (simp (disch := omega) only [go_sem, w64, wU, hln, hw1, heq, hs, q1, q2, q3, hra, hmet, hir] <;> exact rfl) | exact rfl) ?_
              refine ⟨(r + 1), ?_, ?_, ?_⟩
              · (try dsimp only); omega
              · exact ⟨by omega, by omega⟩
              · refine Wk.sub ?_
                simp (maxSteps := 1000000) (disch := omega) only [go_sem, w64, wU, hln, hw1, heq, hs, q1, q2, q3, hra, hmet, hir]
          · try simp only [decide_eq_true_eq, decide_eq_false_iff_not, Bool.or_eq_true, Bool.or_eq_false_iff, Bool.and_eq_true, Bool.and_eq_false_imp, Bool.not_eq_true', Bool.not_eq_false'] at hc5
            refine AW.exit ?_
            show AW _ _ _ _ _
            refine AW.reg rfl ?_
            refine ARN.run1 (by simp (maxSteps := 1000000) only [go_sem, hln, hw1, heq, hs, q1, q2, q3, hra, hmet] <;> exact rfl) ?_
            refine ARN.pcall (fun hp => c27 code u inp most _ hc (by omega) h2 (by omega) (by omega) hii) rfl (by simp (maxSteps := 1000000) only [go_sem, hln, hw1, heq, hs, q1, q2, q3, hra, hmet] <;> exact rfl) (by simp only [go_sem]) (by simp (maxSteps := 1000000) only [go_sem, hln, hw1, heq, hs, q1, q2, q3, hra, hmet] <;> exact rfl) ?_
            refine ARN.run1 (by simp (maxSteps := 1000000) only [go_sem, hln, hw1, heq, hs, q1, q2, q3, hra, hmet] <;> exact rfl) ?_
            refine ARN.fin1 (by first | (simp (disch := omega) only [go_sem, w64, wU, hln, hw1, heq, hs, q1, q2, q3, hra, hmet] <;> exact rfl) | exact rfl) ?_
            show AW _ _ _ _ _
            refine AW.regR1 rfl (by simp (maxSteps := 1000000) only [go_sem, hln, hw1, heq, hs, q1, q2, q3, hra, hmet] <;> exact rfl) (by first | (simp (disch := omega) only [go_sem, w64, wU, hln, hw1, heq, hs, q1, q2, q3, hra, hmet] <;> exact rfl) | exact rfl) ?_
            refine ⟨((i + 1), stepS code inp most u), ?_, ?_, ?_⟩
            · (try dsimp only); omega
            · exact ⟨by rw [show (i + 1).toNat = i.toNat + 1 by omega, ← Nat.add_assoc]; exact step_ok h2 hc hii, by omega, by omega, on_step hc (by omega) hc3.2 h7⟩
            · refine Wk.to [] [0, 1] hz (by decide) ?_ ?_
              · simp (maxSteps := 1000000) (disch := omega) only [go_sem, w64, wU, hln, hw1, heq, hs, q1, q2, q3, hra, hmet]
              · simp (maxSteps := 1000000) (disch := omega) only [go_sem, w64, wU, hln, hw1, heq, hs, q1, q2, q3, hra, hmet]
      · try simp only [decide_eq_true_eq, decide_eq_false_iff_not, Bool.or_eq_true, Bool.or_eq_false_iff, Bool.and_eq_true, Bool.and_eq_false_imp, Bool.not_eq_true', Bool.not_eq_false'] at hc3
        refine AW.exit ?_
        show AW _ _ _ _ _
        refine AW.regS rfl ?_
        refine ARN.pcall (fun hp => c40) rfl (by simp (maxSteps := 1000000) only [go_sem, hln, hw1, heq, hs] <;> exact rfl) (by simp only [go_sem]) (by simp (maxSteps := 1000000) only [go_sem, hln, hw1, heq, hs] <;> exact rfl) ?_
        refine ARN.run1 (by simp (maxSteps := 1000000) only [go_sem, hln, hw1, heq, hs] <;> exact rfl) ?_
        refine ARN.fin (by first | (simp (disch := omega) only [go_sem, w64, wU, hln, hw1, heq, hs] <;> exact rfl) | exact rfl) ?_
        refine retK.fin rfl (by simp (maxSteps := 1000000) only [go_sem, hln, hw1, heq, hs] <;> exact rfl) (by simp (maxSteps := 1000000) only [go_sem, hln, hw1, heq, hs] <;> exact rfl) (.of ?_)
        rfl
end Go.Ab.Try
