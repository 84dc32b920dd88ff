/- The reference's machine: a step, a run. -/
import Derived.Test.YtlgfbiepbneihaaVB
import Derived.Test.YtlgfbiepbneihaaDkH
import Derived.Test.YtlgfbiepbneihaaIsG
import Derived.Test.YtlgfbiepbneihaaWordG
namespace Go.Ab.Try
open Go.Proofs Go.Ab
set_option linter.unusedVariables false
set_option linter.unusedSimpArgs false
set_option linter.unnecessarySimpa false
set_option maxRecDepth 100000
theorem c56 (s : St) (c : Int) : PC Try.prog 56 [stV s, .int .i64 c] (stV (s.trap c)) := by
  refine PC.start 9 Try.call56 Try.func56 rfl Try.ntmps56 Try.results56 (by simp only [go_sem]; exact rfl) fun z hz => ?_
  refine AW.regR rfl (by simp (maxSteps := 1000000) only [go_sem] <;> exact rfl) (by first | (simp (disch := omega) only [go_sem, w64, wU] <;> exact rfl) | exact rfl) ?_
  refine AW.regR rfl (by simp (maxSteps := 1000000) only [go_sem] <;> exact rfl) (by first | (simp (disch := omega) only [go_sem, w64, wU] <;> exact rfl) | exact rfl) ?_
  refine AW.regR rfl (by simp (maxSteps := 1000000) only [go_sem] <;> exact rfl) (by first | (simp (disch := omega) only [go_sem, w64, wU] <;> exact rfl) | exact rfl) ?_
  refine AW.regR rfl (by simp (maxSteps := 1000000) only [go_sem] <;> exact rfl) (by first | (simp (disch := omega) only [go_sem, w64, wU] <;> exact rfl) | exact rfl) ?_
  refine retK.fin rfl (by simp (maxSteps := 1000000) only [go_sem] <;> exact rfl) (by simp (maxSteps := 1000000) only [go_sem] <;> exact rfl) (.of ?_)
  rfl
theorem c85 (s : St) (x : Int) (hx : 0 ≤ x) (hC : s.C.length ≤ 300) : PC Try.prog 85 [stV s, .int .u64 x] (.tup [.int .u64 (celV s.C x), .bool (!decide ((s.C.length : Int) ≤ x))]) := by
  refine PC.start 17 Try.call85 Try.func85 rfl Try.ntmps85 Try.results85 (by simp only [go_sem]; exact rfl) fun z hz => ?_
  have hwl : IntKind.u64.wrap (s.C.length : Int) = s.C.length := wU (by omega) (by omega)
  refine AW.regR rfl (by simp (maxSteps := 1000000) only [go_sem, List.length_map, hwl, hx] <;> exact rfl) (by first | (simp (disch := omega) only [go_sem, w64, wU, List.length_map, hwl, hx] <;> exact rfl) | exact rfl) ?_
  refine AW.seq ?_
  refine AW.regR rfl (by simp (maxSteps := 1000000) only [go_sem, List.length_map, hwl, hx] <;> exact rfl) (by first | (simp (disch := omega) only [go_sem, w64, wU, List.length_map, hwl, hx] <;> exact rfl) | exact rfl) ?_
  refine AW.cond (by simp (maxSteps := 1000000) only [go_sem, List.length_map, hwl, hx] <;> exact rfl) (fun hc1 => ?_) (fun hc1 => ?_)
  · try simp only [decide_eq_true_eq, decide_eq_false_iff_not, Bool.or_eq_true, Bool.or_eq_false_iff, Bool.and_eq_true, Bool.and_eq_false_imp, Bool.not_eq_true', Bool.not_eq_false'] at hc1
    refine AW.regR rfl (by simp (maxSteps := 1000000) only [go_sem, List.length_map, hwl, hx] <;> exact rfl) (by first | (simp (disch := omega) only [go_sem, w64, wU, List.length_map, hwl, hx] <;> exact rfl) | exact rfl) ?_
    refine retK.fin rfl (by simp (maxSteps := 1000000) only [go_sem, List.length_map, hwl, hx] <;> exact rfl) (by simp (maxSteps := 1000000) only [go_sem, List.length_map, hwl, hx] <;> exact rfl) (.of ?_)
    simp [celV, hc1]
  · try simp only [decide_eq_true_eq, decide_eq_false_iff_not, Bool.or_eq_true, Bool.or_eq_false_iff, Bool.and_eq_true, Bool.and_eq_false_imp, Bool.not_eq_true', Bool.not_eq_false'] at hc1
    have hr : (s.C.map wdR)[x.toNat]? = some [.int .u64 (s.C.getD x.toNat 0)] := wd_at ⟨hx, by omega⟩
    have g1 : x < (s.C.length : Int) := by omega
    refine AW.skip ?_
    show AW _ _ _ _ _
    refine AW.regR rfl (by simp (maxSteps := 1000000) only [go_sem, List.length_map, hwl, hx, hr, g1] <;> exact rfl) (by first | (simp (disch := omega) only [go_sem, w64, wU, List.length_map, hwl, hx, hr, g1] <;> exact rfl) | exact rfl) ?_
    refine retK.fin rfl (by simp (maxSteps := 1000000) only [go_sem, List.length_map, hwl, hx, hr, g1] <;> exact rfl) (by simp (maxSteps := 1000000) only [go_sem, List.length_map, hwl, hx, hr, g1] <;> exact rfl) (.of ?_)
    simp [celV, hc1]
theorem c59 (s : St) (inp : List Int) (most op a b c m : Int) (ho : op = 7 ∨ op = 8) (ha : InR8 a) (hb : InR8 b) (hw : ∀ j, InR8 j → W64 (s.r.get j)) (hC : s.C.length ≤ 300) : PC Try.prog 59 [stV s, .agg [.int .i64 op, .int .i64 a, .int .i64 b, .int .i64 c, .int .u64 m]] (stV (doS inp most op a b c m s)) := by
  refine PC.start 59 Try.call59 Try.func59 rfl Try.ntmps59 Try.results59 (by simp only [go_sem]; exact rfl) fun z hz => ?_
  have g1 : (s.C.length * 8 ≤ 140737488355328) = True := eq_true (by omega)
  have g2 : (s.C.length ≤ 140737488355328) = True := eq_true (by omega)
  refine AW.regR rfl (by simp (maxSteps := 1000000) only [go_sem, ha, hb, ha.lo, hb.lo, ha.hi, hb.hi, g1, g2] <;> exact rfl) (by first | (simp (disch := omega) only [go_sem, w64, wU, ha, hb, ha.lo, hb.lo, ha.hi, hb.hi, g1, g2] <;> exact rfl) | exact rfl) ?_
  refine AW.regR rfl (by simp (maxSteps := 1000000) only [go_sem, ha, hb, ha.lo, hb.lo, ha.hi, hb.hi, g1, g2] <;> exact rfl) (by first | (simp (disch := omega) only [go_sem, w64, wU, ha, hb, ha.lo, hb.lo, ha.hi, hb.hi, g1, g2] <;> exact rfl) | exact rfl) ?_
  refine AW.seq ?_
  refine AW.regR rfl (by simp (maxSteps := 1000000) only [go_sem, ha, hb, ha.lo, hb.lo, ha.hi, hb.hi, g1, g2] <;> exact rfl) (by first | (simp (disch := omega) only [go_sem, w64, wU, ha, hb, ha.lo, hb.lo, ha.hi, hb.hi, g1, g2] <;> exact rfl) | exact rfl) ?_
  refine AW.cond (by simp (maxSteps := 1000000) only [go_sem, ha, hb, ha.lo, hb.lo, ha.hi, hb.hi, g1, g2] <;> exact rfl) (fun hc1 => ?_) (fun hc1 => ?_)
  · try simp only [decide_eq_true_eq, decide_eq_false_iff_not, Bool.or_eq_true, Bool.or_eq_false_iff, Bool.and_eq_true, Bool.and_eq_false_imp, Bool.not_eq_true', Bool.not_eq_false'] at hc1
    refine AW.regR1 rfl (by simp (maxSteps := 1000000) only [go_sem, ha, hb, ha.lo, hb.lo, ha.hi, hb.hi, g1, g2] <;> exact rfl) (by first | (simp (disch := omega) only [go_sem, w64, wU, ha, hb, ha.lo, hb.lo, ha.hi, hb.hi, g1, g2] <;> exact rfl) | exact rfl) ?_
    show AW _ _ _ _ _
    refine AW.regS rfl ?_
    refine ARN.run1 (by simp (maxSteps := 1000000) only [go_sem, ha, hb, ha.lo, hb.lo, ha.hi, hb.hi, g1, g2] <;> exact rfl) ?_
    refine ARN.pcall (fun hp => c85 s (s.r.get a) (hw _ ha).1 hC) rfl (by simp (maxSteps := 1000000) only [go_sem, ha, hb, ha.lo, hb.lo, ha.hi, hb.hi, g1, g2] <;> exact rfl) (by simp only [go_sem]) (by simp (maxSteps := 1000000) only [go_sem, ha, hb, ha.lo, hb.lo, ha.hi, hb.hi, g1, g2] <;> exact rfl) ?_
    refine ARN.run1 (by simp (maxSteps := 1000000) only [go_sem, ha, hb, ha.lo, hb.lo, ha.hi, hb.hi, g1, g2] <;> exact rfl) ?_
    refine ARN.fin (by first | (simp (disch := omega) only [go_sem, w64, wU, ha, hb, ha.lo, hb.lo, ha.hi, hb.hi, g1, g2] <;> exact rfl) | exact rfl) ?_
    refine AW.seq ?_
    refine AW.regR rfl (by simp (maxSteps := 1000000) only [go_sem, ha, hb, ha.lo, hb.lo, ha.hi, hb.hi, g1, g2] <;> exact rfl) (by first | (simp (disch := omega) only [go_sem, w64, wU, ha, hb, ha.lo, hb.lo, ha.hi, hb.hi, g1, g2] <;> exact rfl) | exact rfl) ?_
    refine AW.cond (by simp (maxSteps := 1000000) only [go_sem, ha, hb, ha.lo, hb.lo, ha.hi, hb.hi, g1, g2] <;> exact rfl) (fun hc2 => ?_) (fun hc2 => ?_)
    · try simp only [decide_eq_true_eq, decide_eq_false_iff_not, Bool.or_eq_true, Bool.or_eq_false_iff, Bool.and_eq_true, Bool.and_eq_false_imp, Bool.not_eq_true', Bool.not_eq_false'] at hc2
      refine AW.regS rfl ?_
      refine ARN.run1 (by simp (maxSteps := 1000000) only [go_sem, ha, hb, ha.lo, hb.lo, ha.hi, hb.hi, g1, g2] <;> exact rfl) ?_
      refine ARN.pcall (fun hp => c56 s 257) rfl (by simp (maxSteps := 1000000) only [go_sem, ha, hb, ha.lo, hb.lo, ha.hi, hb.hi, g1, g2] <;> exact rfl) (by simp only [go_sem]) (by simp (maxSteps := 1000000) only [go_sem, ha, hb, ha.lo, hb.lo, ha.hi, hb.hi, g1, g2] <;> exact rfl) ?_
      refine ARN.run1 (by simp (maxSteps := 1000000) only [go_sem, ha, hb, ha.lo, hb.lo, ha.hi, hb.hi, g1, g2] <;> exact rfl) ?_
      refine ARN.fin (by first | (simp (disch := omega) only [go_sem, w64, wU, ha, hb, ha.lo, hb.lo, ha.hi, hb.hi, g1, g2] <;> exact rfl) | exact rfl) ?_
      refine retK.fin rfl (by simp (maxSteps := 1000000) only [go_sem, ha, hb, ha.lo, hb.lo, ha.hi, hb.hi, g1, g2] <;> exact rfl) (by simp (maxSteps := 1000000) only [go_sem, ha, hb, ha.lo, hb.lo, ha.hi, hb.hi, g1, g2] <;> exact rfl) (.of ?_)
      rw [do_8 hc1, if_pos hc2]; rfl
    · try simp only [decide_eq_true_eq, decide_eq_false_iff_not, Bool.or_eq_true, Bool.or_eq_false_iff, Bool.and_eq_true, Bool.and_eq_false_imp, Bool.not_eq_true', Bool.not_eq_false'] at hc2
      have g3 : 0 ≤ s.r.get a := (hw _ ha).1
      have g4 : s.r.get a < (s.C.length : Int) := by omega
      have g5 : ((s.r.get a).toNat < s.C.length) = True := eq_true (by omega)
      have h7 : ¬ op = 7 := by omega
      have hr : (s.C.map wdR)[(s.r.get a).toNat]? = some [.int .u64 (s.C.getD (s.r.get a).toNat 0)] := wd_at ⟨g3, g4⟩
      refine AW.skip ?_
      show AW _ _ _ _ _
      refine AW.regR rfl (by simp (maxSteps := 1000000) only [go_sem, ha, hb, ha.lo, hb.lo, ha.hi, hb.hi, g1, g2, g3, g4, g5, h7, hr] <;> exact rfl) (by first | (simp (disch := omega) only [go_sem, w64, wU, ha, hb, ha.lo, hb.lo, ha.hi, hb.hi, g1, g2, g3, g4, g5, h7, hr] <;> exact rfl) | exact rfl) ?_
      refine AW.seq ?_
      refine AW.regR rfl (by simp (maxSteps := 1000000) only [go_sem, ha, hb, ha.lo, hb.lo, ha.hi, hb.hi, g1, g2, g3, g4, g5, h7, hr] <;> exact rfl) (by first | (simp (disch := omega) only [go_sem, w64, wU, ha, hb, ha.lo, hb.lo, ha.hi, hb.hi, g1, g2, g3, g4, g5, h7, hr] <;> exact rfl) | exact rfl) ?_
      refine AW.condF (by simp (maxSteps := 1000000) only [go_sem, ha, hb, ha.lo, hb.lo, ha.hi, hb.hi, g1, g2, g3, g4, g5, h7, hr] <;> exact rfl) ?_
      refine AW.skip ?_
      show AW _ _ _ _ _
      refine AW.regR rfl (by simp (maxSteps := 1000000) only [go_sem, ha, hb, ha.lo, hb.lo, ha.hi, hb.hi, g1, g2, g3, g4, g5, h7, hr] <;> exact rfl) (by first | (simp (disch := omega) only [go_sem, w64, wU, ha, hb, ha.lo, hb.lo, ha.hi, hb.hi, g1, g2, g3, g4, g5, h7, hr] <;> exact rfl) | exact rfl) ?_
      refine AW.regR rfl (by simp (maxSteps := 1000000) only [go_sem, ha, hb, ha.lo, hb.lo, ha.hi, hb.hi, g1, g2, g3, g4, g5, h7, hr] <;> exact rfl) (by first | (simp (disch := omega) only [go_sem, w64, wU, ha, hb, ha.lo, hb.lo, ha.hi, hb.hi, g1, g2, g3, g4, g5, h7, hr] <;> exact rfl) | exact rfl) ?_
      refine AW.regR rfl (by simp (maxSteps := 1000000) only [go_sem, ha, hb, ha.lo, hb.lo, ha.hi, hb.hi, g1, g2, g3, g4, g5, h7, hr] <;> exact rfl) (by first | (simp (disch := omega) only [go_sem, w64, wU, ha, hb, ha.lo, hb.lo, ha.hi, hb.hi, g1, g2, g3, g4, g5, h7, hr] <;> exact rfl) | exact rfl) ?_
      refine AW.regR rfl (by simp (maxSteps := 1000000) only [go_sem, ha, hb, ha.lo, hb.lo, ha.hi, hb.hi, g1, g2, g3, g4, g5, h7, hr] <;> exact rfl) (by first | (simp (disch := omega) only [go_sem, w64, wU, ha, hb, ha.lo, hb.lo, ha.hi, hb.hi, g1, g2, g3, g4, g5, h7, hr] <;> exact rfl) | exact rfl) ?_
      refine retK.fin rfl (by simp (maxSteps := 1000000) only [go_sem, ha, hb, ha.lo, hb.lo, ha.hi, hb.hi, g1, g2, g3, g4, g5, h7, hr] <;> exact rfl) (by simp (maxSteps := 1000000) only [go_sem, ha, hb, ha.lo, hb.lo, ha.hi, hb.hi, g1, g2, g3, g4, g5, h7, hr] <;> exact rfl) (.of ?_)
      rw [do_8 hc1, if_neg hc2, set_rows]; rfl
  · try simp only [decide_eq_true_eq, decide_eq_false_iff_not, Bool.or_eq_true, Bool.or_eq_false_iff, Bool.and_eq_true, Bool.and_eq_false_imp, Bool.not_eq_true', Bool.not_eq_false'] at hc1
    refine AW.skip ?_
    show AW _ _ _ _ _
    refine AW.regS rfl ?_
    refine ARN.run1 (by simp (maxSteps := 1000000) only [go_sem, ha, hb, ha.lo, hb.lo, ha.hi, hb.hi, g1, g2] <;> exact rfl) ?_
    refine ARN.pcall (fun hp => c85 s (s.r.get b) (hw _ hb).1 hC) rfl (by simp (maxSteps := 1000000) only [go_sem, ha, hb, ha.lo, hb.lo, ha.hi, hb.hi, g1, g2] <;> exact rfl) (by simp only [go_sem]) (by simp (maxSteps := 1000000) only [go_sem, ha, hb, ha.lo, hb.lo, ha.hi, hb.hi, g1, g2] <;> exact rfl) ?_
    refine ARN.run1 (by simp (maxSteps := 1000000) only [go_sem, ha, hb, ha.lo, hb.lo, ha.hi, hb.hi, g1, g2] <;> exact rfl) ?_
    refine ARN.fin (by first | (simp (disch := omega) only [go_sem, w64, wU, ha, hb, ha.lo, hb.lo, ha.hi, hb.hi, g1, g2] <;> exact rfl) | exact rfl) ?_
    refine AW.seq ?_
    refine AW.regR rfl (by simp (maxSteps := 1000000) only [go_sem, ha, hb, ha.lo, hb.lo, ha.hi, hb.hi, g1, g2] <;> exact rfl) (by first | (simp (disch := omega) only [go_sem, w64, wU, ha, hb, ha.lo, hb.lo, ha.hi, hb.hi, g1, g2] <;> exact rfl) | exact rfl) ?_
    refine AW.cond (by simp (maxSteps := 1000000) only [go_sem, ha, hb, ha.lo, hb.lo, ha.hi, hb.hi, g1, g2] <;> exact rfl) (fun hc4 => ?_) (fun hc4 => ?_)
    · try simp only [decide_eq_true_eq, decide_eq_false_iff_not, Bool.or_eq_true, Bool.or_eq_false_iff, Bool.and_eq_true, Bool.and_eq_false_imp, Bool.not_eq_true', Bool.not_eq_false'] at hc4
      refine AW.regS rfl ?_
      refine ARN.run1 (by simp (maxSteps := 1000000) only [go_sem, ha, hb, ha.lo, hb.lo, ha.hi, hb.hi, g1, g2] <;> exact rfl) ?_
      refine ARN.pcall (fun hp => c56 s 257) rfl (by simp (maxSteps := 1000000) only [go_sem, ha, hb, ha.lo, hb.lo, ha.hi, hb.hi, g1, g2] <;> exact rfl) (by simp only [go_sem]) (by simp (maxSteps := 1000000) only [go_sem, ha, hb, ha.lo, hb.lo, ha.hi, hb.hi, g1, g2] <;> exact rfl) ?_
      refine ARN.run1 (by simp (maxSteps := 1000000) only [go_sem, ha, hb, ha.lo, hb.lo, ha.hi, hb.hi, g1, g2] <;> exact rfl) ?_
      refine ARN.fin (by first | (simp (disch := omega) only [go_sem, w64, wU, ha, hb, ha.lo, hb.lo, ha.hi, hb.hi, g1, g2] <;> exact rfl) | exact rfl) ?_
      refine retK.fin rfl (by simp (maxSteps := 1000000) only [go_sem, ha, hb, ha.lo, hb.lo, ha.hi, hb.hi, g1, g2] <;> exact rfl) (by simp (maxSteps := 1000000) only [go_sem, ha, hb, ha.lo, hb.lo, ha.hi, hb.hi, g1, g2] <;> exact rfl) (.of ?_)
      rw [do_7 (by omega), if_pos hc4]; rfl
    · try simp only [decide_eq_true_eq, decide_eq_false_iff_not, Bool.or_eq_true, Bool.or_eq_false_iff, Bool.and_eq_true, Bool.and_eq_false_imp, Bool.not_eq_true', Bool.not_eq_false'] at hc4
      have h7 : op = 7 := by omega
      refine AW.skip ?_
      show AW _ _ _ _ _
      refine AW.regR rfl (by simp (maxSteps := 1000000) only [go_sem, ha, hb, ha.lo, hb.lo, ha.hi, hb.hi, g1, g2, h7] <;> exact rfl) (by first | (simp (disch := omega) only [go_sem, w64, wU, ha, hb, ha.lo, hb.lo, ha.hi, hb.hi, g1, g2, h7] <;> exact rfl) | exact rfl) ?_
      refine AW.seq ?_
      refine AW.regR rfl (by simp (maxSteps := 1000000) only [go_sem, ha, hb, ha.lo, hb.lo, ha.hi, hb.hi, g1, g2, h7] <;> exact rfl) (by first | (simp (disch := omega) only [go_sem, w64, wU, ha, hb, ha.lo, hb.lo, ha.hi, hb.hi, g1, g2, h7] <;> exact rfl) | exact rfl) ?_
      refine AW.condT (by simp (maxSteps := 1000000) only [go_sem, ha, hb, ha.lo, hb.lo, ha.hi, hb.hi, g1, g2, h7] <;> exact rfl) ?_
      refine AW.regR rfl (by simp (maxSteps := 1000000) only [go_sem, ha, hb, ha.lo, hb.lo, ha.hi, hb.hi, g1, g2, h7] <;> exact rfl) (by first | (simp (disch := omega) only [go_sem, w64, wU, ha, hb, ha.lo, hb.lo, ha.hi, hb.hi, g1, g2, h7] <;> exact rfl) | exact rfl) ?_
      refine AW.regR rfl (by simp (maxSteps := 1000000) only [go_sem, ha, hb, ha.lo, hb.lo, ha.hi, hb.hi, g1, g2, h7] <;> exact rfl) (by first | (simp (disch := omega) only [go_sem, w64, wU, ha, hb, ha.lo, hb.lo, ha.hi, hb.hi, g1, g2, h7] <;> exact rfl) | exact rfl) ?_
      refine retK.fin rfl (by simp (maxSteps := 1000000) only [go_sem, ha, hb, ha.lo, hb.lo, ha.hi, hb.hi, g1, g2, h7] <;> exact rfl) (by simp (maxSteps := 1000000) only [go_sem, ha, hb, ha.lo, hb.lo, ha.hi, hb.hi, g1, g2, h7] <;> exact rfl) (.of ?_)
      rw [do_7 h7, if_neg hc4]; simp only [celV, if_neg hc4]; rfl
theorem c60 (s : St) (inp : List Int) (most op a b c m : Int) (ho : op = 10 ∨ op = 11 ∨ op = 12 ∨ op = 13) (ha : InR8 a) (hb : InR8 b) (hw : ∀ j, InR8 j → W64 (s.r.get j)) (hs : Sm s.D s.l) : PC Try.prog 60 [stV s, .agg [.int .i64 op, .int .i64 a, .int .i64 b, .int .i64 c, .int .u64 m], .int .i64 most] (stV (doS inp most op a b c m s)) := by
  refine PC.start 85 Try.call60 Try.func60 rfl Try.ntmps60 Try.results60 (by simp only [go_sem]; exact rfl) fun z hz => ?_
  refine AW.regR rfl (by simp (maxSteps := 1000000) only [go_sem, ha, hb, ha.lo, hb.lo, ha.hi, hb.hi] <;> exact rfl) (by first | (simp (disch := omega) only [go_sem, w64, wU, ha, hb, ha.lo, hb.lo, ha.hi, hb.hi] <;> exact rfl) | exact rfl) ?_
  refine AW.seq ?_
  refine AW.regR rfl (by simp (maxSteps := 1000000) only [go_sem, ha, hb, ha.lo, hb.lo, ha.hi, hb.hi] <;> exact rfl) (by first | (simp (disch := omega) only [go_sem, w64, wU, ha, hb, ha.lo, hb.lo, ha.hi, hb.hi] <;> exact rfl) | exact rfl) ?_
  refine AW.block ?_
  refine AW.regR rfl (by simp (maxSteps := 1000000) only [go_sem, ha, hb, ha.lo, hb.lo, ha.hi, hb.hi] <;> exact rfl) (by first | (simp (disch := omega) only [go_sem, w64, wU, ha, hb, ha.lo, hb.lo, ha.hi, hb.hi] <;> exact rfl) | exact rfl) ?_
  refine AW.cond (by simp (maxSteps := 1000000) only [go_sem, ha, hb, ha.lo, hb.lo, ha.hi, hb.hi] <;> exact rfl) (fun hc1 => ?_) (fun hc1 => ?_)
  · try simp only [decide_eq_true_eq, decide_eq_false_iff_not, Bool.or_eq_true, Bool.or_eq_false_iff, Bool.and_eq_true, Bool.and_eq_false_imp, Bool.not_eq_true', Bool.not_eq_false'] at hc1
    refine AW.regDS follows (by kernel_rfl) ?_
    refine ARE.run1 (by simp (maxSteps := 1000000) only [go_sem, ha, hb, ha.lo, hb.lo, ha.hi, hb.hi] <;> exact rfl) ?_
    refine ARE.pcall (fun hp => rr s.D s.l s.e (s.r.get b) (hw _ hb).1 hs) rfl (by simp (maxSteps := 1000000) only [go_sem, ha, hb, ha.lo, hb.lo, ha.hi, hb.hi] <;> exact rfl) (by simp only [go_sem]) (by simp (maxSteps := 1000000) only [go_sem, ha, hb, ha.lo, hb.lo, ha.hi, hb.hi] <;> exact rfl) ?_
    refine ARE.run1 (by simp (maxSteps := 1000000) only [go_sem, ha, hb, ha.lo, hb.lo, ha.hi, hb.hi] <;> exact rfl) ?_
    refine ARE.fin [0, 1, 0, 4, 0, 28, 60, 127, 255, 511, 511, 1023, 4095] _ (by kernel_rfl) (by simp (maxSteps := 1000000) only [go_sem, ha, hb, ha.lo, hb.lo, ha.hi, hb.hi] <;> exact rfl) (by kernel_rfl) (by first | (simp (disch := omega) only [go_sem, w64, wU, ha, hb, ha.lo, hb.lo, ha.hi, hb.hi] <;> exact rfl) | exact rfl) ?_
    refine AW.seq ?_
    refine AW.regR rfl (by simp (maxSteps := 1000000) only [go_sem, ha, hb, ha.lo, hb.lo, ha.hi, hb.hi] <;> exact rfl) (by first | (simp (disch := omega) only [go_sem, w64, wU, ha, hb, ha.lo, hb.lo, ha.hi, hb.hi] <;> exact rfl) | exact rfl) ?_
    refine AW.cond (by simp (maxSteps := 1000000) only [go_sem, ha, hb, ha.lo, hb.lo, ha.hi, hb.hi] <;> exact rfl) (fun hc2 => ?_) (fun hc2 => ?_)
    · try simp only [decide_eq_true_eq, decide_eq_false_iff_not, Bool.or_eq_true, Bool.or_eq_false_iff, Bool.and_eq_true, Bool.and_eq_false_imp, Bool.not_eq_true', Bool.not_eq_false'] at hc2
      refine AW.regS rfl ?_
      refine ARN.run1 (by simp (maxSteps := 1000000) only [go_sem, ha, hb, ha.lo, hb.lo, ha.hi, hb.hi] <;> exact rfl) ?_
      refine ARN.pcall (fun hp => c56 s 258) rfl (by simp (maxSteps := 1000000) only [go_sem, ha, hb, ha.lo, hb.lo, ha.hi, hb.hi] <;> exact rfl) (by simp only [go_sem]) (by simp (maxSteps := 1000000) only [go_sem, ha, hb, ha.lo, hb.lo, ha.hi, hb.hi] <;> exact rfl) ?_
      refine ARN.run1 (by simp (maxSteps := 1000000) only [go_sem, ha, hb, ha.lo, hb.lo, ha.hi, hb.hi] <;> exact rfl) ?_
      refine ARN.fin (by first | (simp (disch := omega) only [go_sem, w64, wU, ha, hb, ha.lo, hb.lo, ha.hi, hb.hi] <;> exact rfl) | exact rfl) ?_
      refine retK.fin rfl (by simp (maxSteps := 1000000) only [go_sem, ha, hb, ha.lo, hb.lo, ha.hi, hb.hi] <;> exact rfl) (by simp (maxSteps := 1000000) only [go_sem, ha, hb, ha.lo, hb.lo, ha.hi, hb.hi] <;> exact rfl) (.of ?_)
      rw [do_10 hc1, if_pos (rdO_no (by simpa using hc2))]; rfl
    · try simp only [decide_eq_true_eq, decide_eq_false_iff_not, Bool.or_eq_true, Bool.or_eq_false_iff, Bool.and_eq_true, Bool.and_eq_false_imp, Bool.not_eq_true', Bool.not_eq_false'] at hc2
      refine AW.skip ?_
      show AW _ _ _ _ _
      refine AW.regR rfl (by simp (maxSteps := 1000000) only [go_sem, ha, hb, ha.lo, hb.lo, ha.hi, hb.hi] <;> exact rfl) (by first | (simp (disch := omega) only [go_sem, w64, wU, ha, hb, ha.lo, hb.lo, ha.hi, hb.hi] <;> exact rfl) | exact rfl) ?_
      refine AW.regR rfl (by simp (maxSteps := 1000000) only [go_sem, ha, hb, ha.lo, hb.lo, ha.hi, hb.hi] <;> exact rfl) (by first | (simp (disch := omega) only [go_sem, w64, wU, ha, hb, ha.lo, hb.lo, ha.hi, hb.hi] <;> exact rfl) | exact rfl) ?_
      refine AW.regR rfl (by simp (maxSteps := 1000000) only [go_sem, ha, hb, ha.lo, hb.lo, ha.hi, hb.hi] <;> exact rfl) (by first | (simp (disch := omega) only [go_sem, w64, wU, ha, hb, ha.lo, hb.lo, ha.hi, hb.hi] <;> exact rfl) | exact rfl) ?_
      refine retK.fin rfl (by simp (maxSteps := 1000000) only [go_sem, ha, hb, ha.lo, hb.lo, ha.hi, hb.hi] <;> exact rfl) (by simp (maxSteps := 1000000) only [go_sem, ha, hb, ha.lo, hb.lo, ha.hi, hb.hi] <;> exact rfl) (.of ?_)
      rw [do_10 hc1, if_neg (rdO_yes (by simpa using hc2))]; rfl
  · try simp only [decide_eq_true_eq, decide_eq_false_iff_not, Bool.or_eq_true, Bool.or_eq_false_iff, Bool.and_eq_true, Bool.and_eq_false_imp, Bool.not_eq_true', Bool.not_eq_false'] at hc1
    refine AW.regR rfl (by simp (maxSteps := 1000000) only [go_sem, ha, hb, ha.lo, hb.lo, ha.hi, hb.hi] <;> exact rfl) (by first | (simp (disch := omega) only [go_sem, w64, wU, ha, hb, ha.lo, hb.lo, ha.hi, hb.hi] <;> exact rfl) | exact rfl) ?_
    refine AW.cond (by simp (maxSteps := 1000000) only [go_sem, ha, hb, ha.lo, hb.lo, ha.hi, hb.hi] <;> exact rfl) (fun hc3 => ?_) (fun hc3 => ?_)
    · try simp only [decide_eq_true_eq, decide_eq_false_iff_not, Bool.or_eq_true, Bool.or_eq_false_iff, Bool.and_eq_true, Bool.and_eq_false_imp, Bool.not_eq_true', Bool.not_eq_false'] at hc3
      refine AW.regDS follows (by kernel_rfl) ?_
      refine ARE.run1 (by simp (maxSteps := 1000000) only [go_sem, ha, hb, ha.lo, hb.lo, ha.hi, hb.hi] <;> exact rfl) ?_
      refine ARE.pcall (fun hp => c87 s.D s.l s.e (s.r.get a) (s.r.get b) most (hw _ ha).1 hs) rfl (by simp (maxSteps := 1000000) only [go_sem, ha, hb, ha.lo, hb.lo, ha.hi, hb.hi] <;> exact rfl) (by simp only [go_sem]) (by simp (maxSteps := 1000000) only [go_sem, ha, hb, ha.lo, hb.lo, ha.hi, hb.hi] <;> exact rfl) ?_
      refine ARE.run1 (by simp (maxSteps := 1000000) only [go_sem, ha, hb, ha.lo, hb.lo, ha.hi, hb.hi] <;> exact rfl) ?_
      refine ARE.fin [0, 1, 0, 4, 0, 28, 60, 0, 128, 0, 896, 1920, 0, 8191, 16383, 32767, 32767, 0, 196607, 524287] _ (by kernel_rfl) (by simp (maxSteps := 1000000) only [go_sem, ha, hb, ha.lo, hb.lo, ha.hi, hb.hi] <;> exact rfl) (by kernel_rfl) (by first | (simp (disch := omega) only [go_sem, w64, wU, ha, hb, ha.lo, hb.lo, ha.hi, hb.hi] <;> exact rfl) | exact rfl) ?_
      refine AW.seq ?_
      refine AW.regR rfl (by simp (maxSteps := 1000000) only [go_sem, ha, hb, ha.lo, hb.lo, ha.hi, hb.hi] <;> exact rfl) (by first | (simp (disch := omega) only [go_sem, w64, wU, ha, hb, ha.lo, hb.lo, ha.hi, hb.hi] <;> exact rfl) | exact rfl) ?_
      refine AW.cond (by simp (maxSteps := 1000000) only [go_sem, ha, hb, ha.lo, hb.lo, ha.hi, hb.hi] <;> exact rfl) (fun hc4 => ?_) (fun hc4 => ?_)
      · try simp only [decide_eq_true_eq, decide_eq_false_iff_not, Bool.or_eq_true, Bool.or_eq_false_iff, Bool.and_eq_true, Bool.and_eq_false_imp, Bool.not_eq_true', Bool.not_eq_false'] at hc4
        refine AW.regS rfl ?_
        refine ARN.run1 (by simp (maxSteps := 1000000) only [go_sem, ha, hb, ha.lo, hb.lo, ha.hi, hb.hi] <;> exact rfl) ?_
        refine ARN.pcall (fun hp => c56 s (wrC s.D s.l (s.r.get a) most)) rfl (by simp (maxSteps := 1000000) only [go_sem, ha, hb, ha.lo, hb.lo, ha.hi, hb.hi] <;> exact rfl) (by simp only [go_sem]) (by simp (maxSteps := 1000000) only [go_sem, ha, hb, ha.lo, hb.lo, ha.hi, hb.hi] <;> exact rfl) ?_
        refine ARN.run1 (by simp (maxSteps := 1000000) only [go_sem, ha, hb, ha.lo, hb.lo, ha.hi, hb.hi] <;> exact rfl) ?_
        refine ARN.fin (by first | (simp (disch := omega) only [go_sem, w64, wU, ha, hb, ha.lo, hb.lo, ha.hi, hb.hi] <;> exact rfl) | exact rfl) ?_
        refine retK.fin rfl (by simp (maxSteps := 1000000) only [go_sem, ha, hb, ha.lo, hb.lo, ha.hi, hb.hi] <;> exact rfl) (by simp (maxSteps := 1000000) only [go_sem, ha, hb, ha.lo, hb.lo, ha.hi, hb.hi] <;> exact rfl) (.of ?_)
        rw [do_11 hc3, if_neg hc4]; rfl
      · try simp only [decide_eq_true_eq, decide_eq_false_iff_not, Bool.or_eq_true, Bool.or_eq_false_iff, Bool.and_eq_true, Bool.and_eq_false_imp, Bool.not_eq_true', Bool.not_eq_false'] at hc4
        refine AW.skip ?_
        show AW _ _ _ _ _
        refine AW.regR1 rfl (by simp (maxSteps := 1000000) only [go_sem, ha, hb, ha.lo, hb.lo, ha.hi, hb.hi] <;> exact rfl) (by first | (simp (disch := omega) only [go_sem, w64, wU, ha, hb, ha.lo, hb.lo, ha.hi, hb.hi] <;> exact rfl) | exact rfl) ?_
        show AW _ _ _ _ _
        refine AW.regR rfl (by simp (maxSteps := 1000000) only [go_sem, ha, hb, ha.lo, hb.lo, ha.hi, hb.hi] <;> exact rfl) (by first | (simp (disch := omega) only [go_sem, w64, wU, ha, hb, ha.lo, hb.lo, ha.hi, hb.hi] <;> exact rfl) | exact rfl) ?_
        refine AW.regR rfl (by simp (maxSteps := 1000000) only [go_sem, ha, hb, ha.lo, hb.lo, ha.hi, hb.hi] <;> exact rfl) (by first | (simp (disch := omega) only [go_sem, w64, wU, ha, hb, ha.lo, hb.lo, ha.hi, hb.hi] <;> exact rfl) | exact rfl) ?_
        refine AW.regR rfl (by simp (maxSteps := 1000000) only [go_sem, ha, hb, ha.lo, hb.lo, ha.hi, hb.hi] <;> exact rfl) (by first | (simp (disch := omega) only [go_sem, w64, wU, ha, hb, ha.lo, hb.lo, ha.hi, hb.hi] <;> exact rfl) | exact rfl) ?_
        refine retK.fin rfl (by simp (maxSteps := 1000000) only [go_sem, ha, hb, ha.lo, hb.lo, ha.hi, hb.hi] <;> exact rfl) (by simp (maxSteps := 1000000) only [go_sem, ha, hb, ha.lo, hb.lo, ha.hi, hb.hi] <;> exact rfl) (.of ?_)
        rw [do_11 hc3, if_pos (by simpa using hc4)]; rfl
    · try simp only [decide_eq_true_eq, decide_eq_false_iff_not, Bool.or_eq_true, Bool.or_eq_false_iff, Bool.and_eq_true, Bool.and_eq_false_imp, Bool.not_eq_true', Bool.not_eq_false'] at hc3
      refine AW.regR rfl (by simp (maxSteps := 1000000) only [go_sem, ha, hb, ha.lo, hb.lo, ha.hi, hb.hi] <;> exact rfl) (by first | (simp (disch := omega) only [go_sem, w64, wU, ha, hb, ha.lo, hb.lo, ha.hi, hb.hi] <;> exact rfl) | exact rfl) ?_
      refine AW.cond (by simp (maxSteps := 1000000) only [go_sem, ha, hb, ha.lo, hb.lo, ha.hi, hb.hi] <;> exact rfl) (fun hc5 => ?_) (fun hc5 => ?_)
      · try simp only [decide_eq_true_eq, decide_eq_false_iff_not, Bool.or_eq_true, Bool.or_eq_false_iff, Bool.and_eq_true, Bool.and_eq_false_imp, Bool.not_eq_true', Bool.not_eq_false'] at hc5
        refine AW.reg rfl ?_
        refine ARN.run1 (by simp (maxSteps := 1000000) only [go_sem, ha, hb, ha.lo, hb.lo, ha.hi, hb.hi] <;> exact rfl) ?_
        refine ARN.pcall (fun hp => c88 s.D s.l s.e hs) rfl (by simp (maxSteps := 1000000) only [go_sem, ha, hb, ha.lo, hb.lo, ha.hi, hb.hi] <;> exact rfl) (by simp only [go_sem]) (by simp (maxSteps := 1000000) only [go_sem, ha, hb, ha.lo, hb.lo, ha.hi, hb.hi] <;> exact rfl) ?_
        refine ARN.run1 (by simp (maxSteps := 1000000) only [go_sem, ha, hb, ha.lo, hb.lo, ha.hi, hb.hi] <;> exact rfl) ?_
        refine ARN.fin1 (by first | (simp (disch := omega) only [go_sem, w64, wU, ha, hb, ha.lo, hb.lo, ha.hi, hb.hi] <;> exact rfl) | exact rfl) ?_
        show AW _ _ _ _ _
        refine AW.regR rfl (by simp (maxSteps := 1000000) only [go_sem, ha, hb, ha.lo, hb.lo, ha.hi, hb.hi] <;> exact rfl) (by first | (simp (disch := omega) only [go_sem, w64, wU, ha, hb, ha.lo, hb.lo, ha.hi, hb.hi] <;> exact rfl) | exact rfl) ?_
        refine AW.regR rfl (by simp (maxSteps := 1000000) only [go_sem, ha, hb, ha.lo, hb.lo, ha.hi, hb.hi] <;> exact rfl) (by first | (simp (disch := omega) only [go_sem, w64, wU, ha, hb, ha.lo, hb.lo, ha.hi, hb.hi] <;> exact rfl) | exact rfl) ?_
        refine AW.regR rfl (by simp (maxSteps := 1000000) only [go_sem, ha, hb, ha.lo, hb.lo, ha.hi, hb.hi] <;> exact rfl) (by first | (simp (disch := omega) only [go_sem, w64, wU, ha, hb, ha.lo, hb.lo, ha.hi, hb.hi] <;> exact rfl) | exact rfl) ?_
        refine retK.fin rfl (by simp (maxSteps := 1000000) only [go_sem, ha, hb, ha.lo, hb.lo, ha.hi, hb.hi] <;> exact rfl) (by simp (maxSteps := 1000000) only [go_sem, ha, hb, ha.lo, hb.lo, ha.hi, hb.hi] <;> exact rfl) (.of ?_)
        rw [do_12 hc5]; rfl
      · try simp only [decide_eq_true_eq, decide_eq_false_iff_not, Bool.or_eq_true, Bool.or_eq_false_iff, Bool.and_eq_true, Bool.and_eq_false_imp, Bool.not_eq_true', Bool.not_eq_false'] at hc5
        refine AW.reg rfl ?_
        refine ARN.run1 (by simp (maxSteps := 1000000) only [go_sem, ha, hb, ha.lo, hb.lo, ha.hi, hb.hi] <;> exact rfl) ?_
        refine ARN.pcall (fun hp => c89 s.D s.l s.e hs) rfl (by simp (maxSteps := 1000000) only [go_sem, ha, hb, ha.lo, hb.lo, ha.hi, hb.hi] <;> exact rfl) (by simp only [go_sem]) (by simp (maxSteps := 1000000) only [go_sem, ha, hb, ha.lo, hb.lo, ha.hi, hb.hi] <;> exact rfl) ?_
        refine ARN.run1 (by simp (maxSteps := 1000000) only [go_sem, ha, hb, ha.lo, hb.lo, ha.hi, hb.hi] <;> exact rfl) ?_
        refine ARN.fin1 (by first | (simp (disch := omega) only [go_sem, w64, wU, ha, hb, ha.lo, hb.lo, ha.hi, hb.hi] <;> exact rfl) | exact rfl) ?_
        show AW _ _ _ _ _
        refine AW.regR rfl (by simp (maxSteps := 1000000) only [go_sem, ha, hb, ha.lo, hb.lo, ha.hi, hb.hi] <;> exact rfl) (by first | (simp (disch := omega) only [go_sem, w64, wU, ha, hb, ha.lo, hb.lo, ha.hi, hb.hi] <;> exact rfl) | exact rfl) ?_
        refine AW.regR rfl (by simp (maxSteps := 1000000) only [go_sem, ha, hb, ha.lo, hb.lo, ha.hi, hb.hi] <;> exact rfl) (by first | (simp (disch := omega) only [go_sem, w64, wU, ha, hb, ha.lo, hb.lo, ha.hi, hb.hi] <;> exact rfl) | exact rfl) ?_
        refine AW.regR rfl (by simp (maxSteps := 1000000) only [go_sem, ha, hb, ha.lo, hb.lo, ha.hi, hb.hi] <;> exact rfl) (by first | (simp (disch := omega) only [go_sem, w64, wU, ha, hb, ha.lo, hb.lo, ha.hi, hb.hi] <;> exact rfl) | exact rfl) ?_
        refine retK.fin rfl (by simp (maxSteps := 1000000) only [go_sem, ha, hb, ha.lo, hb.lo, ha.hi, hb.hi] <;> exact rfl) (by simp (maxSteps := 1000000) only [go_sem, ha, hb, ha.lo, hb.lo, ha.hi, hb.hi] <;> exact rfl) (.of ?_)
        rw [do_13 (by omega)]; rfl
theorem c26 (D : List Int) (l : List Pn) (e n : Int) : PC Try.prog 26 [devV D l e, .int .i64 n] (stV (startS D l e n)) := by
  refine PC.start 15 Try.call26 Try.func26 rfl Try.ntmps26 Try.results26 (by simp only [go_sem]; exact rfl) fun z hz => ?_
  refine AW.regR rfl (by simp (maxSteps := 1000000) only [go_sem] <;> exact rfl) (by first | (simp (disch := omega) only [go_sem, w64, wU] <;> exact rfl) | exact rfl) ?_
  refine AW.seq ?_
  refine AW.regR rfl (by simp (maxSteps := 1000000) only [go_sem] <;> exact rfl) (by first | (simp (disch := omega) only [go_sem, w64, wU] <;> exact rfl) | exact rfl) ?_
  refine AW.cond (by simp (maxSteps := 1000000) only [go_sem] <;> exact rfl) (fun hc1 => ?_) (fun hc1 => ?_)
  · try simp only [decide_eq_true_eq, decide_eq_false_iff_not, Bool.or_eq_true, Bool.or_eq_false_iff, Bool.and_eq_true, Bool.and_eq_false_imp, Bool.not_eq_true', Bool.not_eq_false'] at hc1
    refine AW.regR1 rfl (by simp (maxSteps := 1000000) only [go_sem] <;> exact rfl) (by first | (simp (disch := omega) only [go_sem, w64, wU] <;> exact rfl) | exact rfl) ?_
    show AW _ _ _ _ _
    refine AW.regDS follows (by kernel_rfl) ?_
    refine ARE.run1 (by simp (maxSteps := 1000000) only [go_sem] <;> exact rfl) ?_
    refine ARE.fin [0, 1, 0, 7, 15] _ (by kernel_rfl) (by simp (maxSteps := 1000000) only [go_sem] <;> exact rfl) (by kernel_rfl) (by first | (simp (disch := omega) only [go_sem, w64, wU] <;> exact rfl) | exact rfl) ?_
    refine retK.fin rfl (by simp (maxSteps := 1000000) only [go_sem] <;> exact rfl) (by simp (maxSteps := 1000000) only [go_sem] <;> exact rfl) (.of ?_)
    rw [startS, clsN, if_pos hc1]; rfl
  · try simp only [decide_eq_true_eq, decide_eq_false_iff_not, Bool.or_eq_true, Bool.or_eq_false_iff, Bool.and_eq_true, Bool.and_eq_false_imp, Bool.not_eq_true', Bool.not_eq_false'] at hc1
    have g1 : 0 ≤ n := by omega
    have g2 : n ≤ 255 := by omega
    have g3 : (n.toNat * 8 ≤ 140737488355328) = True := eq_true (by omega)
    have g4 : (n.toNat ≤ 140737488355328) = True := eq_true (by omega)
    have g5 : (n ≤ 140737488355328) = True := eq_true (by omega)
    have g6 : (8 * n ≤ 281474976710656) = True := eq_true (by omega)
    have g7 : (n ≤ 9223372036854775807) = True := eq_true (by omega)
    refine AW.skip ?_
    show AW _ _ _ _ _
    refine AW.regDS follows (by kernel_rfl) ?_
    refine ARE.run1 (by simp (maxSteps := 1000000) only [go_sem, g1, g2, g3, g4, g5, g6, g7] <;> exact rfl) ?_
    refine ARE.fin [0, 1, 0, 7, 15] _ (by kernel_rfl) (by simp (maxSteps := 1000000) only [go_sem, g1, g2, g3, g4, g5, g6, g7] <;> exact rfl) (by kernel_rfl) (by first | (simp (disch := omega) only [go_sem, w64, wU, g1, g2, g3, g4, g5, g6, g7] <;> exact rfl) | exact rfl) ?_
    refine retK.fin rfl (by simp (maxSteps := 1000000) only [go_sem, g1, g2, g3, g4, g5, g6, g7] <;> exact rfl) (by simp (maxSteps := 1000000) only [go_sem, g1, g2, g3, g4, g5, g6, g7] <;> exact rfl) (.of ?_)
    rw [startS, clsN, if_neg (by omega), zero_rows]; rfl
set_option maxHeartbeats 4000000 in
theorem c27 (code : List Ins) (s : St) (inp : List Int) (most : Int) (N : Nat) (hc : OkC code) (hL : code.length ≤ 100) (hs : OkS s N) (hN : N ≤ 1000) (hi : inp.length ≤ 100) (hii : OkI inp) : PC Try.prog 27 [.lst false 5 (code.map inR), stV s, .lst false 1 (inp.map byR), .int .i64 most] (stV (stepS code inp most s)) := by
  refine PC.start 186 Try.call27 Try.func27 rfl Try.ntmps27 Try.results27 (by simp only [go_sem]; exact rfl) fun z hz => ?_
  have hwi : IntKind.u64.wrap (inp.length : Int) = inp.length := wU (by omega) (by omega)
  refine AW.regR rfl (by simp (maxSteps := 1000000) only [go_sem, hwi] <;> exact rfl) (by first | (simp (disch := omega) only [go_sem, w64, wU, hwi] <;> exact rfl) | exact rfl) ?_
  refine AW.seq ?_
  refine AW.regR rfl (by simp (maxSteps := 1000000) only [go_sem, hwi] <;> exact rfl) (by first | (simp (disch := omega) only [go_sem, w64, wU, hwi] <;> exact rfl) | exact rfl) ?_
  refine AW.cond (by simp (maxSteps := 1000000) only [go_sem, hwi] <;> exact rfl) (fun hc1 => ?_) (fun hc1 => ?_)
  · try simp only [decide_eq_true_eq, decide_eq_false_iff_not, Bool.or_eq_true, Bool.or_eq_false_iff, Bool.and_eq_true, Bool.and_eq_false_imp, Bool.not_eq_true', Bool.not_eq_false'] at hc1
    refine AW.regR rfl (by simp (maxSteps := 1000000) only [go_sem, hwi] <;> exact rfl) (by first | (simp (disch := omega) only [go_sem, w64, wU, hwi] <;> exact rfl) | exact rfl) ?_
    refine retK.fin rfl (by simp (maxSteps := 1000000) only [go_sem, hwi] <;> exact rfl) (by simp (maxSteps := 1000000) only [go_sem, hwi] <;> exact rfl) (.of ?_)
    rw [step_no hc1]; rfl
  · try simp only [decide_eq_true_eq, decide_eq_false_iff_not, Bool.or_eq_true, Bool.or_eq_false_iff, Bool.and_eq_true, Bool.and_eq_false_imp, Bool.not_eq_true', Bool.not_eq_false'] at hc1
    refine AW.skip ?_
    show AW _ _ _ _ _
    refine AW.regR rfl (by simp (maxSteps := 1000000) only [go_sem, hwi] <;> exact rfl) (by first | (simp (disch := omega) only [go_sem, w64, wU, hwi] <;> exact rfl) | exact rfl) ?_
    refine AW.seq ?_
    by_cases hs4 : 0 ≤ s.pc ∧ s.pc < (code.length : Int)
    · have q0 := hs4.1; have q1 := hs4.2; have q2 : decide (s.pc < 0) = false := decide_eq_false (by omega); have q3 : decide ((code.length : Int) ≤ s.pc) = false := decide_eq_false (by omega); obtain ⟨⟨op, a, b, c, m⟩, hI⟩ : ∃ i, code.getD s.pc.toNat i0 = i := ⟨_, rfl⟩; have hr := in_at hs4; rw [hI] at hr; have hm : W64 m := by have := hc _ (getD_mem (d := i0) (show s.pc.toNat < code.length by omega)); rw [hI] at this; exact this
      have h0 : s.en = 0 := by simpa using hc1
      refine AW.regS rfl ?_
      refine ARN.run1 (by simp (maxSteps := 1000000) only [go_sem, hwi, hs4, q0, q1, q2, q3, hr] <;> exact rfl) ?_
      refine ARN.pcall (fun hp => c51 op a b c m 0 code.length hm) rfl (by simp (maxSteps := 1000000) only [go_sem, hwi, hs4, q0, q1, q2, q3, hr] <;> exact rfl) (by simp only [go_sem]) (by simp (maxSteps := 1000000) only [go_sem, hwi, hs4, q0, q1, q2, q3, hr] <;> exact rfl) ?_
      refine ARN.run1 (by simp (maxSteps := 1000000) only [go_sem, hwi, hs4, q0, q1, q2, q3, hr] <;> exact rfl) ?_
      refine ARN.fin (by first | (simp (disch := omega) only [go_sem, w64, wU, hwi, hs4, q0, q1, q2, q3, hr] <;> exact rfl) | exact rfl) ?_
      refine AW.cond (by simp (maxSteps := 1000000) only [go_sem, hwi, hs4, q0, q1, q2, q3, hr] <;> exact rfl) (fun hc2 => ?_) (fun hc2 => ?_)
      · try simp only [decide_eq_true_eq, decide_eq_false_iff_not, Bool.or_eq_true, Bool.or_eq_false_iff, Bool.and_eq_true, Bool.and_eq_false_imp, Bool.not_eq_true', Bool.not_eq_false'] at hc2
        refine AW.regS rfl ?_
        refine ARN.run1 (by simp (maxSteps := 1000000) only [go_sem, hwi, hs4, q0, q1, q2, q3, hr] <;> exact rfl) ?_
        refine ARN.pcall (fun hp => c56 s.tick 256) rfl (by simp (maxSteps := 1000000) only [go_sem, hwi, hs4, q0, q1, q2, q3, hr] <;> exact rfl) (by simp only [go_sem]) (by simp (maxSteps := 1000000) only [go_sem, hwi, hs4, q0, q1, q2, q3, hr] <;> exact rfl) ?_
        refine ARN.run1 (by simp (maxSteps := 1000000) only [go_sem, hwi, hs4, q0, q1, q2, q3, hr] <;> exact rfl) ?_
        refine ARN.fin (by first | (simp (disch := omega) only [go_sem, w64, wU, hwi, hs4, q0, q1, q2, q3, hr] <;> exact rfl) | exact rfl) ?_
        refine retK.fin rfl (by simp (maxSteps := 1000000) only [go_sem, hwi, hs4, q0, q1, q2, q3, hr] <;> exact rfl) (by simp (maxSteps := 1000000) only [go_sem, hwi, hs4, q0, q1, q2, q3, hr] <;> exact rfl) (.of ?_)
        rw [step_bad h0 q0 q1 hI (by simpa using hc2)]; rfl
      · try simp only [decide_eq_true_eq, decide_eq_false_iff_not, Bool.or_eq_true, Bool.or_eq_false_iff, Bool.and_eq_true, Bool.and_eq_false_imp, Bool.not_eq_true', Bool.not_eq_false'] at hc2
        refine AW.skip ?_
        show AW _ _ _ _ _
        have hin : 1 ≤ op ∧ op ≤ 15 ∧ InR8 a ∧ InR8 b ∧ InR8 c := chk_in (by simpa using hc2)
        have ha : InR8 a := hin.2.2.1
        have hb : InR8 b := hin.2.2.2.1
        have hcr : InR8 c := hin.2.2.2.2
        refine AW.regR rfl (by simp (maxSteps := 1000000) only [go_sem, hwi, hs4, q0, q1, q2, q3, hr, hin, ha, hb, hcr] <;> exact rfl) (by first | (simp (disch := omega) only [go_sem, w64, wU, hwi, hs4, q0, q1, q2, q3, hr, hin, ha, hb, hcr] <;> exact rfl) | exact rfl) ?_
        refine AW.seq ?_
        refine AW.regR rfl (by simp (maxSteps := 1000000) only [go_sem, hwi, hs4, q0, q1, q2, q3, hr, hin, ha, hb, hcr] <;> exact rfl) (by first | (simp (disch := omega) only [go_sem, w64, wU, hwi, hs4, q0, q1, q2, q3, hr, hin, ha, hb, hcr] <;> exact rfl) | exact rfl) ?_
        refine AW.block ?_
        refine AW.regR rfl (by simp (maxSteps := 1000000) only [go_sem, hwi, hs4, q0, q1, q2, q3, hr, hin, ha, hb, hcr] <;> exact rfl) (by first | (simp (disch := omega) only [go_sem, w64, wU, hwi, hs4, q0, q1, q2, q3, hr, hin, ha, hb, hcr] <;> exact rfl) | exact rfl) ?_
        refine AW.cond (by simp (maxSteps := 1000000) only [go_sem, hwi, hs4, q0, q1, q2, q3, hr, hin, ha, hb, hcr] <;> exact rfl) (fun hc3 => ?_) (fun hc3 => ?_)
        · try simp only [decide_eq_true_eq, decide_eq_false_iff_not, Bool.or_eq_true, Bool.or_eq_false_iff, Bool.and_eq_true, Bool.and_eq_false_imp, Bool.not_eq_true', Bool.not_eq_false'] at hc3
          refine AW.regR1 rfl (by simp (maxSteps := 1000000) only [go_sem, hwi, hs4, q0, q1, q2, q3, hr, hin, ha, hb, hcr] <;> exact rfl) (by first | (simp (disch := omega) only [go_sem, w64, wU, hwi, hs4, q0, q1, q2, q3, hr, hin, ha, hb, hcr] <;> exact rfl) | exact rfl) ?_
          show AW _ _ _ _ _
          refine AW.regR rfl (by simp (maxSteps := 1000000) only [go_sem, hwi, hs4, q0, q1, q2, q3, hr, hin, ha, hb, hcr] <;> exact rfl) (by first | (simp (disch := omega) only [go_sem, w64, wU, hwi, hs4, q0, q1, q2, q3, hr, hin, ha, hb, hcr] <;> exact rfl) | exact rfl) ?_
          refine AW.regR rfl (by simp (maxSteps := 1000000) only [go_sem, hwi, hs4, q0, q1, q2, q3, hr, hin, ha, hb, hcr] <;> exact rfl) (by first | (simp (disch := omega) only [go_sem, w64, wU, hwi, hs4, q0, q1, q2, q3, hr, hin, ha, hb, hcr] <;> exact rfl) | exact rfl) ?_
          refine retK.fin rfl (by simp (maxSteps := 1000000) only [go_sem, hwi, hs4, q0, q1, q2, q3, hr, hin, ha, hb, hcr] <;> exact rfl) (by simp (maxSteps := 1000000) only [go_sem, hwi, hs4, q0, q1, q2, q3, hr, hin, ha, hb, hcr] <;> exact rfl) (.of ?_)
          rw [step_in h0 q0 q1 hI (by simpa using hc2), do_1 hc3]; rfl
        · try simp only [decide_eq_true_eq, decide_eq_false_iff_not, Bool.or_eq_true, Bool.or_eq_false_iff, Bool.and_eq_true, Bool.and_eq_false_imp, Bool.not_eq_true', Bool.not_eq_false'] at hc3
          refine AW.regR rfl (by simp (maxSteps := 1000000) only [go_sem, hwi, hs4, q0, q1, q2, q3, hr, hin, ha, hb, hcr] <;> exact rfl) (by first | (simp (disch := omega) only [go_sem, w64, wU, hwi, hs4, q0, q1, q2, q3, hr, hin, ha, hb, hcr] <;> exact rfl) | exact rfl) ?_
          refine AW.cond (by simp (maxSteps := 1000000) only [go_sem, hwi, hs4, q0, q1, q2, q3, hr, hin, ha, hb, hcr] <;> exact rfl) (fun hc4 => ?_) (fun hc4 => ?_)
          · try simp only [decide_eq_true_eq, decide_eq_false_iff_not, Bool.or_eq_true, Bool.or_eq_false_iff, Bool.and_eq_true, Bool.and_eq_false_imp, Bool.not_eq_true', Bool.not_eq_false'] at hc4
            refine AW.regD1 follows (by kernel_rfl) ?_
            refine ARE.run1 (by simp (maxSteps := 1000000) only [go_sem, hwi, hs4, q0, q1, q2, q3, hr, hin, ha, hb, hcr] <;> exact rfl) ?_
            refine ARE.fin1 [0, 1, 0, 4, 0, 28, 60, 0, 255, 511] _ (by kernel_rfl) (by simp (maxSteps := 1000000) only [go_sem, hwi, hs4, q0, q1, q2, q3, hr, hin, ha, hb, hcr] <;> exact rfl) (by kernel_rfl) (by first | (simp (disch := omega) only [go_sem, w64, wU, hwi, hs4, q0, q1, q2, q3, hr, hin, ha, hb, hcr] <;> exact rfl) | exact rfl) ?_
            show AW _ _ _ _ _
            refine AW.regR rfl (by simp (maxSteps := 1000000) only [go_sem, hwi, hs4, q0, q1, q2, q3, hr, hin, ha, hb, hcr] <;> exact rfl) (by first | (simp (disch := omega) only [go_sem, w64, wU, hwi, hs4, q0, q1, q2, q3, hr, hin, ha, hb, hcr] <;> exact rfl) | exact rfl) ?_
            refine AW.regR rfl (by simp (maxSteps := 1000000) only [go_sem, hwi, hs4, q0, q1, q2, q3, hr, hin, ha, hb, hcr] <;> exact rfl) (by first | (simp (disch := omega) only [go_sem, w64, wU, hwi, hs4, q0, q1, q2, q3, hr, hin, ha, hb, hcr] <;> exact rfl) | exact rfl) ?_
            refine retK.fin rfl (by simp (maxSteps := 1000000) only [go_sem, hwi, hs4, q0, q1, q2, q3, hr, hin, ha, hb, hcr] <;> exact rfl) (by simp (maxSteps := 1000000) only [go_sem, hwi, hs4, q0, q1, q2, q3, hr, hin, ha, hb, hcr] <;> exact rfl) (.of ?_)
            rw [step_in h0 q0 q1 hI (by simpa using hc2), do_2 hc4]; rfl
          · try simp only [decide_eq_true_eq, decide_eq_false_iff_not, Bool.or_eq_true, Bool.or_eq_false_iff, Bool.and_eq_true, Bool.and_eq_false_imp, Bool.not_eq_true', Bool.not_eq_false'] at hc4
            refine AW.regR rfl (by simp (maxSteps := 1000000) only [go_sem, hwi, hs4, q0, q1, q2, q3, hr, hin, ha, hb, hcr] <;> exact rfl) (by first | (simp (disch := omega) only [go_sem, w64, wU, hwi, hs4, q0, q1, q2, q3, hr, hin, ha, hb, hcr] <;> exact rfl) | exact rfl) ?_
            refine AW.cond (by simp (maxSteps := 1000000) only [go_sem, hwi, hs4, q0, q1, q2, q3, hr, hin, ha, hb, hcr] <;> exact rfl) (fun hc5 => ?_) (fun hc5 => ?_)
            · try simp only [decide_eq_true_eq, decide_eq_false_iff_not, Bool.or_eq_true, Bool.or_eq_false_iff, Bool.and_eq_true, Bool.and_eq_false_imp, Bool.not_eq_true', Bool.not_eq_false'] at hc5
              refine AW.regDS follows (by kernel_rfl) ?_
              refine ARE.run1 (by simp (maxSteps := 1000000) only [go_sem, hwi, hs4, q0, q1, q2, q3, hr, hin, ha, hb, hcr] <;> exact rfl) ?_
              refine ARE.pcall (fun hp => c57 (IntKind.i64.wrap m) 64 (s.r.get b) (s.r.get c)) rfl (by simp (maxSteps := 1000000) only [go_sem, hwi, hs4, q0, q1, q2, q3, hr, hin, ha, hb, hcr] <;> exact rfl) (by simp only [go_sem]) (by simp (maxSteps := 1000000) only [go_sem, hwi, hs4, q0, q1, q2, q3, hr, hin, ha, hb, hcr] <;> exact rfl) ?_
              refine ARE.run1 (by simp (maxSteps := 1000000) only [go_sem, hwi, hs4, q0, q1, q2, q3, hr, hin, ha, hb, hcr] <;> exact rfl) ?_
              refine ARE.fin [0, 1, 3, 0, 8, 0, 56, 120, 0, 256, 0, 1792, 3840, 8191, 16383, 32767, 32767, 65535, 262143] _ (by kernel_rfl) (by simp (maxSteps := 1000000) only [go_sem, hwi, hs4, q0, q1, q2, q3, hr, hin, ha, hb, hcr] <;> exact rfl) (by kernel_rfl) (by first | (simp (disch := omega) only [go_sem, w64, wU, hwi, hs4, q0, q1, q2, q3, hr, hin, ha, hb, hcr] <;> exact rfl) | exact rfl) ?_
              refine AW.regR1 rfl (by simp (maxSteps := 1000000) only [go_sem, hwi, hs4, q0, q1, q2, q3, hr, hin, ha, hb, hcr] <;> exact rfl) (by first | (simp (disch := omega) only [go_sem, w64, wU, hwi, hs4, q0, q1, q2, q3, hr, hin, ha, hb, hcr] <;> exact rfl) | exact rfl) ?_
              show AW _ _ _ _ _
              refine AW.regR rfl (by simp (maxSteps := 1000000) only [go_sem, hwi, hs4, q0, q1, q2, q3, hr, hin, ha, hb, hcr] <;> exact rfl) (by first | (simp (disch := omega) only [go_sem, w64, wU, hwi, hs4, q0, q1, q2, q3, hr, hin, ha, hb, hcr] <;> exact rfl) | exact rfl) ?_
              refine AW.regR rfl (by simp (maxSteps := 1000000) only [go_sem, hwi, hs4, q0, q1, q2, q3, hr, hin, ha, hb, hcr] <;> exact rfl) (by first | (simp (disch := omega) only [go_sem, w64, wU, hwi, hs4, q0, q1, q2, q3, hr, hin, ha, hb, hcr] <;> exact rfl) | exact rfl) ?_
              refine retK.fin rfl (by simp (maxSteps := 1000000) only [go_sem, hwi, hs4, q0, q1, q2, q3, hr, hin, ha, hb, hcr] <;> exact rfl) (by simp (maxSteps := 1000000) only [go_sem, hwi, hs4, q0, q1, q2, q3, hr, hin, ha, hb, hcr] <;> exact rfl) (.of ?_)
              rw [step_in h0 q0 q1 hI (by simpa using hc2), do_3 hc5]; rfl
            · try simp only [decide_eq_true_eq, decide_eq_false_iff_not, Bool.or_eq_true, Bool.or_eq_false_iff, Bool.and_eq_true, Bool.and_eq_false_imp, Bool.not_eq_true', Bool.not_eq_false'] at hc5
              refine AW.regR rfl (by simp (maxSteps := 1000000) only [go_sem, hwi, hs4, q0, q1, q2, q3, hr, hin, ha, hb, hcr] <;> exact rfl) (by first | (simp (disch := omega) only [go_sem, w64, wU, hwi, hs4, q0, q1, q2, q3, hr, hin, ha, hb, hcr] <;> exact rfl) | exact rfl) ?_
              refine AW.cond (by simp (maxSteps := 1000000) only [go_sem, hwi, hs4, q0, q1, q2, q3, hr, hin, ha, hb, hcr] <;> exact rfl) (fun hc6 => ?_) (fun hc6 => ?_)
              · try simp only [decide_eq_true_eq, decide_eq_false_iff_not, Bool.or_eq_true, Bool.or_eq_false_iff, Bool.and_eq_true, Bool.and_eq_false_imp, Bool.not_eq_true', Bool.not_eq_false'] at hc6
                refine AW.regDS follows (by kernel_rfl) ?_
                refine ARE.run1 (by simp (maxSteps := 1000000) only [go_sem, hwi, hs4, q0, q1, q2, q3, hr, hin, ha, hb, hcr] <;> exact rfl) ?_
                refine ARE.pcall (fun hp => c58 (IntKind.i64.wrap m) 64 (s.r.get b) (hs.rw _ hb)) rfl (by simp (maxSteps := 1000000) only [go_sem, hwi, hs4, q0, q1, q2, q3, hr, hin, ha, hb, hcr] <;> exact rfl) (by simp only [go_sem]) (by simp (maxSteps := 1000000) only [go_sem, hwi, hs4, q0, q1, q2, q3, hr, hin, ha, hb, hcr] <;> exact rfl) ?_
                refine ARE.run1 (by simp (maxSteps := 1000000) only [go_sem, hwi, hs4, q0, q1, q2, q3, hr, hin, ha, hb, hcr] <;> exact rfl) ?_
                refine ARE.fin [0, 1, 3, 0, 8, 0, 56, 120, 255, 511, 1023, 1023, 2047, 8191] _ (by kernel_rfl) (by simp (maxSteps := 1000000) only [go_sem, hwi, hs4, q0, q1, q2, q3, hr, hin, ha, hb, hcr] <;> exact rfl) (by kernel_rfl) (by first | (simp (disch := omega) only [go_sem, w64, wU, hwi, hs4, q0, q1, q2, q3, hr, hin, ha, hb, hcr] <;> exact rfl) | exact rfl) ?_
                refine AW.regR1 rfl (by simp (maxSteps := 1000000) only [go_sem, hwi, hs4, q0, q1, q2, q3, hr, hin, ha, hb, hcr] <;> exact rfl) (by first | (simp (disch := omega) only [go_sem, w64, wU, hwi, hs4, q0, q1, q2, q3, hr, hin, ha, hb, hcr] <;> exact rfl) | exact rfl) ?_
                show AW _ _ _ _ _
                refine AW.regR rfl (by simp (maxSteps := 1000000) only [go_sem, hwi, hs4, q0, q1, q2, q3, hr, hin, ha, hb, hcr] <;> exact rfl) (by first | (simp (disch := omega) only [go_sem, w64, wU, hwi, hs4, q0, q1, q2, q3, hr, hin, ha, hb, hcr] <;> exact rfl) | exact rfl) ?_
                refine AW.regR rfl (by simp (maxSteps := 1000000) only [go_sem, hwi, hs4, q0, q1, q2, q3, hr, hin, ha, hb, hcr] <;> exact rfl) (by first | (simp (disch := omega) only [go_sem, w64, wU, hwi, hs4, q0, q1, q2, q3, hr, hin, ha, hb, hcr] <;> exact rfl) | exact rfl) ?_
                refine retK.fin rfl (by simp (maxSteps := 1000000) only [go_sem, hwi, hs4, q0, q1, q2, q3, hr, hin, ha, hb, hcr] <;> exact rfl) (by simp (maxSteps := 1000000) only [go_sem, hwi, hs4, q0, q1, q2, q3, hr, hin, ha, hb, hcr] <;> exact rfl) (.of ?_)
                rw [step_in h0 q0 q1 hI (by simpa using hc2), do_4 hc6]; rfl
              · try simp only [decide_eq_true_eq, decide_eq_false_iff_not, Bool.or_eq_true, Bool.or_eq_false_iff, Bool.and_eq_true, Bool.and_eq_false_imp, Bool.not_eq_true', Bool.not_eq_false'] at hc6
                refine AW.regR rfl (by simp (maxSteps := 1000000) only [go_sem, hwi, hs4, q0, q1, q2, q3, hr, hin, ha, hb, hcr] <;> exact rfl) (by first | (simp (disch := omega) only [go_sem, w64, wU, hwi, hs4, q0, q1, q2, q3, hr, hin, ha, hb, hcr] <;> exact rfl) | exact rfl) ?_
                refine AW.cond (by simp (maxSteps := 1000000) only [go_sem, hwi, hs4, q0, q1, q2, q3, hr, hin, ha, hb, hcr] <;> exact rfl) (fun hc7 => ?_) (fun hc7 => ?_)
                · try simp only [decide_eq_true_eq, decide_eq_false_iff_not, Bool.or_eq_true, Bool.or_eq_false_iff, Bool.and_eq_true, Bool.and_eq_false_imp, Bool.not_eq_true', Bool.not_eq_false'] at hc7
                  refine AW.regR rfl (by simp (maxSteps := 1000000) only [go_sem, hwi, hs4, q0, q1, q2, q3, hr, hin, ha, hb, hcr] <;> exact rfl) (by first | (simp (disch := omega) only [go_sem, w64, wU, hwi, hs4, q0, q1, q2, q3, hr, hin, ha, hb, hcr] <;> exact rfl) | exact rfl) ?_
                  refine AW.seq ?_
                  refine AW.regR rfl (by simp (maxSteps := 1000000) only [go_sem, hwi, hs4, q0, q1, q2, q3, hr, hin, ha, hb, hcr] <;> exact rfl) (by first | (simp (disch := omega) only [go_sem, w64, wU, hwi, hs4, q0, q1, q2, q3, hr, hin, ha, hb, hcr] <;> exact rfl) | exact rfl) ?_
                  refine AW.cond (by simp (maxSteps := 1000000) only [go_sem, hwi, hs4, q0, q1, q2, q3, hr, hin, ha, hb, hcr] <;> exact rfl) (fun hc8 => ?_) (fun hc8 => ?_)
                  · try simp only [decide_eq_true_eq, decide_eq_false_iff_not, Bool.or_eq_true, Bool.or_eq_false_iff, Bool.and_eq_true, Bool.and_eq_false_imp, Bool.not_eq_true', Bool.not_eq_false'] at hc8
                    have hm0 : 0 ≤ m := hm.1
                    have hm1 : m < (inp.length : Int) := hc8
                    have hri : (inp.map byR)[m.toNat]? = some [.int .u8 (inp.getD m.toNat 0)] := by_at ⟨hm.1, hc8⟩
                    have hwb : IntKind.u64.wrap (inp.getD m.toNat 0) = inp.getD m.toNat 0 := by have := hii _ (getD_mem (d := 0) (show m.toNat < inp.length by omega)); exact wU (by omega) (by omega)
                    refine AW.regR1 rfl (by simp (maxSteps := 1000000) only [go_sem, hwi, hs4, q0, q1, q2, q3, hr, hin, ha, hb, hcr, hm0, hm1, hri, hwb] <;> exact rfl) (by first | (simp (disch := omega) only [go_sem, w64, wU, hwi, hs4, q0, q1, q2, q3, hr, hin, ha, hb, hcr, hm0, hm1, hri, hwb] <;> exact rfl) | exact rfl) ?_
                    show AW _ _ _ _ _
                    refine AW.regR1 rfl (by simp (maxSteps := 1000000) only [go_sem, hwi, hs4, q0, q1, q2, q3, hr, hin, ha, hb, hcr, hm0, hm1, hri, hwb] <;> exact rfl) (by first | (simp (disch := omega) only [go_sem, w64, wU, hwi, hs4, q0, q1, q2, q3, hr, hin, ha, hb, hcr, hm0, hm1, hri, hwb] <;> exact rfl) | exact rfl) ?_
                    show AW _ _ _ _ _
                    refine AW.regR rfl (by simp (maxSteps := 1000000) only [go_sem, hwi, hs4, q0, q1, q2, q3, hr, hin, ha, hb, hcr, hm0, hm1, hri, hwb] <;> exact rfl) (by first | (simp (disch := omega) only [go_sem, w64, wU, hwi, hs4, q0, q1, q2, q3, hr, hin, ha, hb, hcr, hm0, hm1, hri, hwb] <;> exact rfl) | exact rfl) ?_
                    refine AW.regR rfl (by simp (maxSteps := 1000000) only [go_sem, hwi, hs4, q0, q1, q2, q3, hr, hin, ha, hb, hcr, hm0, hm1, hri, hwb] <;> exact rfl) (by first | (simp (disch := omega) only [go_sem, w64, wU, hwi, hs4, q0, q1, q2, q3, hr, hin, ha, hb, hcr, hm0, hm1, hri, hwb] <;> exact rfl) | exact rfl) ?_
                    refine retK.fin rfl (by simp (maxSteps := 1000000) only [go_sem, hwi, hs4, q0, q1, q2, q3, hr, hin, ha, hb, hcr, hm0, hm1, hri, hwb] <;> exact rfl) (by simp (maxSteps := 1000000) only [go_sem, hwi, hs4, q0, q1, q2, q3, hr, hin, ha, hb, hcr, hm0, hm1, hri, hwb] <;> exact rfl) (.of ?_)
                    rw [step_in h0 q0 q1 hI (by simpa using hc2), do_9 hc7, inpS, if_pos hc8]; rfl
                  · try simp only [decide_eq_true_eq, decide_eq_false_iff_not, Bool.or_eq_true, Bool.or_eq_false_iff, Bool.and_eq_true, Bool.and_eq_false_imp, Bool.not_eq_true', Bool.not_eq_false'] at hc8
                    refine AW.skip ?_
                    show AW _ _ _ _ _
                    refine AW.regR1 rfl (by simp (maxSteps := 1000000) only [go_sem, hwi, hs4, q0, q1, q2, q3, hr, hin, ha, hb, hcr] <;> exact rfl) (by first | (simp (disch := omega) only [go_sem, w64, wU, hwi, hs4, q0, q1, q2, q3, hr, hin, ha, hb, hcr] <;> exact rfl) | exact rfl) ?_
                    show AW _ _ _ _ _
                    refine AW.regR rfl (by simp (maxSteps := 1000000) only [go_sem, hwi, hs4, q0, q1, q2, q3, hr, hin, ha, hb, hcr] <;> exact rfl) (by first | (simp (disch := omega) only [go_sem, w64, wU, hwi, hs4, q0, q1, q2, q3, hr, hin, ha, hb, hcr] <;> exact rfl) | exact rfl) ?_
                    refine AW.regR rfl (by simp (maxSteps := 1000000) only [go_sem, hwi, hs4, q0, q1, q2, q3, hr, hin, ha, hb, hcr] <;> exact rfl) (by first | (simp (disch := omega) only [go_sem, w64, wU, hwi, hs4, q0, q1, q2, q3, hr, hin, ha, hb, hcr] <;> exact rfl) | exact rfl) ?_
                    refine retK.fin rfl (by simp (maxSteps := 1000000) only [go_sem, hwi, hs4, q0, q1, q2, q3, hr, hin, ha, hb, hcr] <;> exact rfl) (by simp (maxSteps := 1000000) only [go_sem, hwi, hs4, q0, q1, q2, q3, hr, hin, ha, hb, hcr] <;> exact rfl) (.of ?_)
                    rw [step_in h0 q0 q1 hI (by simpa using hc2), do_9 hc7, inpS, if_neg hc8]; rfl
                · try simp only [decide_eq_true_eq, decide_eq_false_iff_not, Bool.or_eq_true, Bool.or_eq_false_iff, Bool.and_eq_true, Bool.and_eq_false_imp, Bool.not_eq_true', Bool.not_eq_false'] at hc7
                  refine AW.regR rfl (by simp (maxSteps := 1000000) only [go_sem, hwi, hs4, q0, q1, q2, q3, hr, hin, ha, hb, hcr] <;> exact rfl) (by first | (simp (disch := omega) only [go_sem, w64, wU, hwi, hs4, q0, q1, q2, q3, hr, hin, ha, hb, hcr] <;> exact rfl) | exact rfl) ?_
                  refine AW.cond (by simp (maxSteps := 1000000) only [go_sem, hwi, hs4, q0, q1, q2, q3, hr, hin, ha, hb, hcr] <;> exact rfl) (fun hc9 => ?_) (fun hc9 => ?_)
                  · try simp only [decide_eq_true_eq, decide_eq_false_iff_not, Bool.or_eq_true, Bool.or_eq_false_iff, Bool.and_eq_true, Bool.and_eq_false_imp, Bool.not_eq_true', Bool.not_eq_false'] at hc9
                    refine AW.regR rfl (by simp (maxSteps := 1000000) only [go_sem, hwi, hs4, q0, q1, q2, q3, hr, hin, ha, hb, hcr] <;> exact rfl) (by first | (simp (disch := omega) only [go_sem, w64, wU, hwi, hs4, q0, q1, q2, q3, hr, hin, ha, hb, hcr] <;> exact rfl) | exact rfl) ?_
                    refine AW.regR rfl (by simp (maxSteps := 1000000) only [go_sem, hwi, hs4, q0, q1, q2, q3, hr, hin, ha, hb, hcr] <;> exact rfl) (by first | (simp (disch := omega) only [go_sem, w64, wU, hwi, hs4, q0, q1, q2, q3, hr, hin, ha, hb, hcr] <;> exact rfl) | exact rfl) ?_
                    refine retK.fin rfl (by simp (maxSteps := 1000000) only [go_sem, hwi, hs4, q0, q1, q2, q3, hr, hin, ha, hb, hcr] <;> exact rfl) (by simp (maxSteps := 1000000) only [go_sem, hwi, hs4, q0, q1, q2, q3, hr, hin, ha, hb, hcr] <;> exact rfl) (.of ?_)
                    rw [step_in h0 q0 q1 hI (by simpa using hc2), do_5 hc9]; rfl
                  · try simp only [decide_eq_true_eq, decide_eq_false_iff_not, Bool.or_eq_true, Bool.or_eq_false_iff, Bool.and_eq_true, Bool.and_eq_false_imp, Bool.not_eq_true', Bool.not_eq_false'] at hc9
                    refine AW.regR rfl (by simp (maxSteps := 1000000) only [go_sem, hwi, hs4, q0, q1, q2, q3, hr, hin, ha, hb, hcr] <;> exact rfl) (by first | (simp (disch := omega) only [go_sem, w64, wU, hwi, hs4, q0, q1, q2, q3, hr, hin, ha, hb, hcr] <;> exact rfl) | exact rfl) ?_
                    refine AW.cond (by simp (maxSteps := 1000000) only [go_sem, hwi, hs4, q0, q1, q2, q3, hr, hin, ha, hb, hcr] <;> exact rfl) (fun hc10 => ?_) (fun hc10 => ?_)
                    · try simp only [decide_eq_true_eq, decide_eq_false_iff_not, Bool.or_eq_true, Bool.or_eq_false_iff, Bool.and_eq_true, Bool.and_eq_false_imp, Bool.not_eq_true', Bool.not_eq_false'] at hc10
                      refine AW.regR rfl (by simp (maxSteps := 1000000) only [go_sem, hwi, hs4, q0, q1, q2, q3, hr, hin, ha, hb, hcr] <;> exact rfl) (by first | (simp (disch := omega) only [go_sem, w64, wU, hwi, hs4, q0, q1, q2, q3, hr, hin, ha, hb, hcr] <;> exact rfl) | exact rfl) ?_
                      refine AW.cond (by simp (maxSteps := 1000000) only [go_sem, hwi, hs4, q0, q1, q2, q3, hr, hin, ha, hb, hcr] <;> exact rfl) (fun hc11 => ?_) (fun hc11 => ?_)
                      · try simp only [decide_eq_true_eq, decide_eq_false_iff_not, Bool.or_eq_true, Bool.or_eq_false_iff, Bool.and_eq_true, Bool.and_eq_false_imp, Bool.not_eq_true', Bool.not_eq_false'] at hc11
                        refine AW.regR rfl (by simp (maxSteps := 1000000) only [go_sem, hwi, hs4, q0, q1, q2, q3, hr, hin, ha, hb, hcr] <;> exact rfl) (by first | (simp (disch := omega) only [go_sem, w64, wU, hwi, hs4, q0, q1, q2, q3, hr, hin, ha, hb, hcr] <;> exact rfl) | exact rfl) ?_
                        refine AW.regR rfl (by simp (maxSteps := 1000000) only [go_sem, hwi, hs4, q0, q1, q2, q3, hr, hin, ha, hb, hcr] <;> exact rfl) (by first | (simp (disch := omega) only [go_sem, w64, wU, hwi, hs4, q0, q1, q2, q3, hr, hin, ha, hb, hcr] <;> exact rfl) | exact rfl) ?_
                        refine retK.fin rfl (by simp (maxSteps := 1000000) only [go_sem, hwi, hs4, q0, q1, q2, q3, hr, hin, ha, hb, hcr] <;> exact rfl) (by simp (maxSteps := 1000000) only [go_sem, hwi, hs4, q0, q1, q2, q3, hr, hin, ha, hb, hcr] <;> exact rfl) (.of ?_)
                        rw [step_in h0 q0 q1 hI (by simpa using hc2), do_6 hc10, if_neg (show ¬ s.tick.r.get a = 0 from hc11)]; rfl
                      · try simp only [decide_eq_true_eq, decide_eq_false_iff_not, Bool.or_eq_true, Bool.or_eq_false_iff, Bool.and_eq_true, Bool.and_eq_false_imp, Bool.not_eq_true', Bool.not_eq_false'] at hc11
                        refine AW.skip ?_
                        show AW _ _ _ _ _
                        refine AW.regR rfl (by simp (maxSteps := 1000000) only [go_sem, hwi, hs4, q0, q1, q2, q3, hr, hin, ha, hb, hcr] <;> exact rfl) (by first | (simp (disch := omega) only [go_sem, w64, wU, hwi, hs4, q0, q1, q2, q3, hr, hin, ha, hb, hcr] <;> exact rfl) | exact rfl) ?_
                        refine AW.regR rfl (by simp (maxSteps := 1000000) only [go_sem, hwi, hs4, q0, q1, q2, q3, hr, hin, ha, hb, hcr] <;> exact rfl) (by first | (simp (disch := omega) only [go_sem, w64, wU, hwi, hs4, q0, q1, q2, q3, hr, hin, ha, hb, hcr] <;> exact rfl) | exact rfl) ?_
                        refine retK.fin rfl (by simp (maxSteps := 1000000) only [go_sem, hwi, hs4, q0, q1, q2, q3, hr, hin, ha, hb, hcr] <;> exact rfl) (by simp (maxSteps := 1000000) only [go_sem, hwi, hs4, q0, q1, q2, q3, hr, hin, ha, hb, hcr] <;> exact rfl) (.of ?_)
                        rw [step_in h0 q0 q1 hI (by simpa using hc2), do_6 hc10, if_pos (show s.tick.r.get a = 0 from (by simpa using hc11 : s.r.get a = 0))]; rfl
                    · try simp only [decide_eq_true_eq, decide_eq_false_iff_not, Bool.or_eq_true, Bool.or_eq_false_iff, Bool.and_eq_true, Bool.and_eq_false_imp, Bool.not_eq_true', Bool.not_eq_false'] at hc10
                      refine AW.regR rfl (by simp (maxSteps := 1000000) only [go_sem, hwi, hs4, q0, q1, q2, q3, hr, hin, ha, hb, hcr] <;> exact rfl) (by first | (simp (disch := omega) only [go_sem, w64, wU, hwi, hs4, q0, q1, q2, q3, hr, hin, ha, hb, hcr] <;> exact rfl) | exact rfl) ?_
                      refine AW.cond (by simp (maxSteps := 1000000) only [go_sem, hwi, hs4, q0, q1, q2, q3, hr, hin, ha, hb, hcr] <;> exact rfl) (fun hc12 => ?_) (fun hc12 => ?_)
                      · try simp only [decide_eq_true_eq, decide_eq_false_iff_not, Bool.or_eq_true, Bool.or_eq_false_iff, Bool.and_eq_true, Bool.and_eq_false_imp, Bool.not_eq_true', Bool.not_eq_false'] at hc12
                        refine AW.regR rfl (by simp (maxSteps := 1000000) only [go_sem, hwi, hs4, q0, q1, q2, q3, hr, hin, ha, hb, hcr] <;> exact rfl) (by first | (simp (disch := omega) only [go_sem, w64, wU, hwi, hs4, q0, q1, q2, q3, hr, hin, ha, hb, hcr] <;> exact rfl) | exact rfl) ?_
                        refine AW.regR rfl (by simp (maxSteps := 1000000) only [go_sem, hwi, hs4, q0, q1, q2, q3, hr, hin, ha, hb, hcr] <;> exact rfl) (by first | (simp (disch := omega) only [go_sem, w64, wU, hwi, hs4, q0, q1, q2, q3, hr, hin, ha, hb, hcr] <;> exact rfl) | exact rfl) ?_
                        refine AW.regR rfl (by simp (maxSteps := 1000000) only [go_sem, hwi, hs4, q0, q1, q2, q3, hr, hin, ha, hb, hcr] <;> exact rfl) (by first | (simp (disch := omega) only [go_sem, w64, wU, hwi, hs4, q0, q1, q2, q3, hr, hin, ha, hb, hcr] <;> exact rfl) | exact rfl) ?_
                        refine retK.fin rfl (by simp (maxSteps := 1000000) only [go_sem, hwi, hs4, q0, q1, q2, q3, hr, hin, ha, hb, hcr] <;> exact rfl) (by simp (maxSteps := 1000000) only [go_sem, hwi, hs4, q0, q1, q2, q3, hr, hin, ha, hb, hcr] <;> exact rfl) (.of ?_)
                        rw [step_in h0 q0 q1 hI (by simpa using hc2), do_14 hc12]; rfl
                      · try simp only [decide_eq_true_eq, decide_eq_false_iff_not, Bool.or_eq_true, Bool.or_eq_false_iff, Bool.and_eq_true, Bool.and_eq_false_imp, Bool.not_eq_true', Bool.not_eq_false'] at hc12
                        refine AW.regR rfl (by simp (maxSteps := 1000000) only [go_sem, hwi, hs4, q0, q1, q2, q3, hr, hin, ha, hb, hcr] <;> exact rfl) (by first | (simp (disch := omega) only [go_sem, w64, wU, hwi, hs4, q0, q1, q2, q3, hr, hin, ha, hb, hcr] <;> exact rfl) | exact rfl) ?_
                        refine AW.cond (by simp (maxSteps := 1000000) only [go_sem, hwi, hs4, q0, q1, q2, q3, hr, hin, ha, hb, hcr] <;> exact rfl) (fun hc13 => ?_) (fun hc13 => ?_)
                        · try simp only [decide_eq_true_eq, decide_eq_false_iff_not, Bool.or_eq_true, Bool.or_eq_false_iff, Bool.and_eq_true, Bool.and_eq_false_imp, Bool.not_eq_true', Bool.not_eq_false'] at hc13
                          refine AW.regS rfl ?_
                          refine ARN.run1 (by simp (maxSteps := 1000000) only [go_sem, hwi, hs4, q0, q1, q2, q3, hr, hin, ha, hb, hcr] <;> exact rfl) ?_
                          refine ARN.pcall (fun hp => c56 s.tick (IntKind.i64.wrap m)) rfl (by simp (maxSteps := 1000000) only [go_sem, hwi, hs4, q0, q1, q2, q3, hr, hin, ha, hb, hcr] <;> exact rfl) (by simp only [go_sem]) (by simp (maxSteps := 1000000) only [go_sem, hwi, hs4, q0, q1, q2, q3, hr, hin, ha, hb, hcr] <;> exact rfl) ?_
                          refine ARN.run1 (by simp (maxSteps := 1000000) only [go_sem, hwi, hs4, q0, q1, q2, q3, hr, hin, ha, hb, hcr] <;> exact rfl) ?_
                          refine ARN.fin (by first | (simp (disch := omega) only [go_sem, w64, wU, hwi, hs4, q0, q1, q2, q3, hr, hin, ha, hb, hcr] <;> exact rfl) | exact rfl) ?_
                          refine retK.fin rfl (by simp (maxSteps := 1000000) only [go_sem, hwi, hs4, q0, q1, q2, q3, hr, hin, ha, hb, hcr] <;> exact rfl) (by simp (maxSteps := 1000000) only [go_sem, hwi, hs4, q0, q1, q2, q3, hr, hin, ha, hb, hcr] <;> exact rfl) (.of ?_)
                          rw [step_in h0 q0 q1 hI (by simpa using hc2), do_15 hc13]; rfl
                        · try simp only [decide_eq_true_eq, decide_eq_false_iff_not, Bool.or_eq_true, Bool.or_eq_false_iff, Bool.and_eq_true, Bool.and_eq_false_imp, Bool.not_eq_true', Bool.not_eq_false'] at hc13
                          refine AW.seq ?_
                          refine AW.regR rfl (by simp (maxSteps := 1000000) only [go_sem, hwi, hs4, q0, q1, q2, q3, hr, hin, ha, hb, hcr] <;> exact rfl) (by first | (simp (disch := omega) only [go_sem, w64, wU, hwi, hs4, q0, q1, q2, q3, hr, hin, ha, hb, hcr] <;> exact rfl) | exact rfl) ?_
                          refine AW.cond (by simp (maxSteps := 1000000) only [go_sem, hwi, hs4, q0, q1, q2, q3, hr, hin, ha, hb, hcr] <;> exact rfl) (fun hc14 => ?_) (fun hc14 => ?_)
                          · try simp only [decide_eq_true_eq, decide_eq_false_iff_not, Bool.or_eq_true, Bool.or_eq_false_iff, Bool.and_eq_true, Bool.and_eq_false_imp, Bool.not_eq_true', Bool.not_eq_false'] at hc14
                            have h7 : op = 7 := hc14
                            refine AW.skip ?_
                            show AW _ _ _ _ _
                            refine AW.condT (by simp (maxSteps := 1000000) only [go_sem, hwi, hs4, q0, q1, q2, q3, hr, hin, ha, hb, hcr, h7] <;> exact rfl) ?_
                            refine AW.regS rfl ?_
                            refine ARN.run1 (by simp (maxSteps := 1000000) only [go_sem, hwi, hs4, q0, q1, q2, q3, hr, hin, ha, hb, hcr, h7] <;> exact rfl) ?_
                            refine ARN.pcall (fun hp => c59 s.tick inp most op a b c m (by omega) ha hb hs.rw hs.cN) rfl (by simp (maxSteps := 1000000) only [go_sem, hwi, hs4, q0, q1, q2, q3, hr, hin, ha, hb, hcr, h7] <;> exact rfl) (by simp only [go_sem]) (by simp (maxSteps := 1000000) only [go_sem, hwi, hs4, q0, q1, q2, q3, hr, hin, ha, hb, hcr, h7] <;> exact rfl) ?_
                            refine ARN.run1 (by simp (maxSteps := 1000000) only [go_sem, hwi, hs4, q0, q1, q2, q3, hr, hin, ha, hb, hcr, h7] <;> exact rfl) ?_
                            refine ARN.fin (by first | (simp (disch := omega) only [go_sem, w64, wU, hwi, hs4, q0, q1, q2, q3, hr, hin, ha, hb, hcr, h7] <;> exact rfl) | exact rfl) ?_
                            refine retK.fin rfl (by simp (maxSteps := 1000000) only [go_sem, hwi, hs4, q0, q1, q2, q3, hr, hin, ha, hb, hcr, h7] <;> exact rfl) (by simp (maxSteps := 1000000) only [go_sem, hwi, hs4, q0, q1, q2, q3, hr, hin, ha, hb, hcr, h7] <;> exact rfl) (.of ?_)
                            rw [step_in h0 q0 q1 hI (by simpa using hc2)]; subst h7; rfl
                          · try simp only [decide_eq_true_eq, decide_eq_false_iff_not, Bool.or_eq_true, Bool.or_eq_false_iff, Bool.and_eq_true, Bool.and_eq_false_imp, Bool.not_eq_true', Bool.not_eq_false'] at hc14
                            refine AW.regR1 rfl (by simp (maxSteps := 1000000) only [go_sem, hwi, hs4, q0, q1, q2, q3, hr, hin, ha, hb, hcr] <;> exact rfl) (by first | (simp (disch := omega) only [go_sem, w64, wU, hwi, hs4, q0, q1, q2, q3, hr, hin, ha, hb, hcr] <;> exact rfl) | exact rfl) ?_
                            show AW _ _ _ _ _
                            refine AW.cond (by simp (maxSteps := 1000000) only [go_sem, hwi, hs4, q0, q1, q2, q3, hr, hin, ha, hb, hcr] <;> exact rfl) (fun hc16 => ?_) (fun hc16 => ?_)
                            · try simp only [decide_eq_true_eq, decide_eq_false_iff_not, Bool.or_eq_true, Bool.or_eq_false_iff, Bool.and_eq_true, Bool.and_eq_false_imp, Bool.not_eq_true', Bool.not_eq_false'] at hc16
                              refine AW.regS rfl ?_
                              refine ARN.run1 (by simp (maxSteps := 1000000) only [go_sem, hwi, hs4, q0, q1, q2, q3, hr, hin, ha, hb, hcr] <;> exact rfl) ?_
                              refine ARN.pcall (fun hp => c59 s.tick inp most op a b c m (by omega) ha hb hs.rw hs.cN) rfl (by simp (maxSteps := 1000000) only [go_sem, hwi, hs4, q0, q1, q2, q3, hr, hin, ha, hb, hcr] <;> exact rfl) (by simp only [go_sem]) (by simp (maxSteps := 1000000) only [go_sem, hwi, hs4, q0, q1, q2, q3, hr, hin, ha, hb, hcr] <;> exact rfl) ?_
                              refine ARN.run1 (by simp (maxSteps := 1000000) only [go_sem, hwi, hs4, q0, q1, q2, q3, hr, hin, ha, hb, hcr] <;> exact rfl) ?_
                              refine ARN.fin (by first | (simp (disch := omega) only [go_sem, w64, wU, hwi, hs4, q0, q1, q2, q3, hr, hin, ha, hb, hcr] <;> exact rfl) | exact rfl) ?_
                              refine retK.fin rfl (by simp (maxSteps := 1000000) only [go_sem, hwi, hs4, q0, q1, q2, q3, hr, hin, ha, hb, hcr] <;> exact rfl) (by simp (maxSteps := 1000000) only [go_sem, hwi, hs4, q0, q1, q2, q3, hr, hin, ha, hb, hcr] <;> exact rfl) (.of ?_)
                              rw [step_in h0 q0 q1 hI (by simpa using hc2)]; rfl
                            · try simp only [decide_eq_true_eq, decide_eq_false_iff_not, Bool.or_eq_true, Bool.or_eq_false_iff, Bool.and_eq_true, Bool.and_eq_false_imp, Bool.not_eq_true', Bool.not_eq_false'] at hc16
                              refine AW.regS rfl ?_
                              refine ARN.run1 (by simp (maxSteps := 1000000) only [go_sem, hwi, hs4, q0, q1, q2, q3, hr, hin, ha, hb, hcr] <;> exact rfl) ?_
                              refine ARN.pcall (fun hp => c60 s.tick inp most op a b c m (by omega) ha hb hs.rw ⟨by have := hs.dN; show s.D.length ≤ _; omega, by have := hs.lN; show s.l.length ≤ _; omega⟩) rfl (by simp (maxSteps := 1000000) only [go_sem, hwi, hs4, q0, q1, q2, q3, hr, hin, ha, hb, hcr] <;> exact rfl) (by simp only [go_sem]) (by simp (maxSteps := 1000000) only [go_sem, hwi, hs4, q0, q1, q2, q3, hr, hin, ha, hb, hcr] <;> exact rfl) ?_
                              refine ARN.run1 (by simp (maxSteps := 1000000) only [go_sem, hwi, hs4, q0, q1, q2, q3, hr, hin, ha, hb, hcr] <;> exact rfl) ?_
                              refine ARN.fin (by first | (simp (disch := omega) only [go_sem, w64, wU, hwi, hs4, q0, q1, q2, q3, hr, hin, ha, hb, hcr] <;> exact rfl) | exact rfl) ?_
                              refine retK.fin rfl (by simp (maxSteps := 1000000) only [go_sem, hwi, hs4, q0, q1, q2, q3, hr, hin, ha, hb, hcr] <;> exact rfl) (by simp (maxSteps := 1000000) only [go_sem, hwi, hs4, q0, q1, q2, q3, hr, hin, ha, hb, hcr] <;> exact rfl) (.of ?_)
                              rw [step_in h0 q0 q1 hI (by simpa using hc2)]; rfl
    · have q4 : or (decide (s.pc < 0)) (decide ((code.length : Int) ≤ s.pc)) = true := (by simp; omega); rcases Int.lt_or_le s.pc 0 with q5 | q5
      all_goals
        first | (have q6 : (0 ≤ s.pc) = False := eq_false (by omega)) | (have q6 : (code.map inR)[s.pc.toNat]? = none := in_none q5 hs4)
        have hb4 := decide_eq_false hs4
        have h0 : s.en = 0 := by simpa using hc1
        refine AW.regS rfl ?_
        refine ARN.run1S (by simp (maxSteps := 1000000) only [go_sem, hwi, hb4, q4, q6] <;> exact rfl) ?_
        first | (refine ARN.pcall (fun hp => c51 op a b c m 0 code.length hm) rfl (by simp (maxSteps := 1000000) only [go_sem, hwi, hb4, q4, q6] <;> exact rfl) (by simp only [go_sem]) (by simp (maxSteps := 1000000) only [go_sem, hwi, hb4, q4, q6] <;> exact rfl) ?_) | skip
        refine ARN.run1S (by simp (maxSteps := 1000000) only [go_sem, hwi, hb4, q4, q6] <;> exact rfl) ?_
        refine ARN.fin (by first | (simp (disch := omega) only [go_sem, w64, wU, hwi, hb4, q4, q6] <;> exact rfl) | exact rfl) ?_
        refine AW.condT (by simp (maxSteps := 1000000) only [go_sem, hwi, hb4, q4, q6] <;> exact rfl) ?_
        refine AW.regS rfl ?_
        refine ARN.run1 (by simp (maxSteps := 1000000) only [go_sem, hwi, hb4, q4, q6] <;> exact rfl) ?_
        refine ARN.pcall (fun hp => c56 s.tick 256) rfl (by simp (maxSteps := 1000000) only [go_sem, hwi, hb4, q4, q6] <;> exact rfl) (by simp only [go_sem]) (by simp (maxSteps := 1000000) only [go_sem, hwi, hb4, q4, q6] <;> exact rfl) ?_
        refine ARN.run1 (by simp (maxSteps := 1000000) only [go_sem, hwi, hb4, q4, q6] <;> exact rfl) ?_
        refine ARN.fin (by first | (simp (disch := omega) only [go_sem, w64, wU, hwi, hb4, q4, q6] <;> exact rfl) | exact rfl) ?_
        refine retK.fin rfl (by simp (maxSteps := 1000000) only [go_sem, hwi, hb4, q4, q6] <;> exact rfl) (by simp (maxSteps := 1000000) only [go_sem, hwi, hb4, q4, q6] <;> exact rfl) (.of ?_)
        rw [step_out h0 hs4]; rfl
end Go.Ab.Try
