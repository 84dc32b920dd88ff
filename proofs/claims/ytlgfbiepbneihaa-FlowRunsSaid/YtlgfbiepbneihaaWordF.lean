/- The functions of the words' layer, each with what it returns. -/
import Derived.Test.YtlgfbiepbneihaaKD
import Derived.Test.YtlgfbiepbneihaaWN
import Derived.Test.YtlgfbiepbneihaaTy
namespace Go.Ab.Try
open Go.Proofs Go.Ab
set_option linter.unusedVariables false
set_option linter.unusedSimpArgs false
set_option linter.unnecessarySimpa false
set_option maxRecDepth 100000
theorem follows : Try.prog.follows .mixedOrders = true := by kernel_rfl
theorem tdivN {a b : Int} (h : 0 ≤ a) : a.tdiv b = a / b := Int.tdiv_eq_ediv_of_nonneg h
theorem tmodN {a b : Int} (h : 0 ≤ a) : a.tmod b = a % b := Int.tmod_eq_emod_of_nonneg h
theorem c79 (w : Int) : PC Try.prog 79 [.int .i64 w] (.bool (decide (fitW w))) := by
  refine PC.start 9 Try.call79 Try.func79 rfl Try.ntmps79 Try.results79 (by simp only [go_sem]; exact rfl) fun z hz => ?_
  refine AW.regR rfl (by simp (maxSteps := 1000000) only [go_sem] <;> exact rfl) (by first | (simp (disch := omega) only [go_sem, w64, wU] <;> exact rfl) | exact rfl) ?_
  refine AW.regR rfl (by simp (maxSteps := 1000000) only [go_sem] <;> exact rfl) (by first | (simp (disch := omega) only [go_sem, w64, wU] <;> exact rfl) | exact rfl) ?_
  refine retK.fin rfl (by simp (maxSteps := 1000000) only [go_sem] <;> exact rfl) (by simp (maxSteps := 1000000) only [go_sem] <;> exact rfl) (.of ?_)
  exact congrArg PV.bool (by by_cases h1 : 1 ≤ w <;> by_cases h2 : w ≤ 64 <;> simp [fitW, h1, h2])
theorem c127 (x i : Int) (hx : W64 x) : PC Try.prog 127 [.int .u64 x, .int .i64 i] (.bool (decide (0 ≤ i ∧ i < 64) && bitT x i)) := by
  refine PC.start 19 Try.call127 Try.func127 rfl Try.ntmps127 Try.results127 (by simp only [go_sem]; exact rfl) fun z hz => ?_
  refine AW.regR rfl (by simp (maxSteps := 1000000) only [go_sem] <;> exact rfl) (by first | (simp (disch := omega) only [go_sem, w64, wU] <;> exact rfl) | exact rfl) ?_
  refine AW.regR rfl (by simp (maxSteps := 1000000) only [go_sem] <;> exact rfl) (by first | (simp (disch := omega) only [go_sem, w64, wU] <;> exact rfl) | exact rfl) ?_
  refine retK.fin rfl (by simp (maxSteps := 1000000) only [go_sem] <;> exact rfl) (by simp (maxSteps := 1000000) only [go_sem] <;> exact rfl) (.of ?_)
  refine congrArg PV.bool ?_
  by_cases h : 0 ≤ i ∧ i < 64
  · rw [wU h.1 (by omega), ishr_u64 (by omega), tmodN (Int.ediv_nonneg hx.1 (Int.le_of_lt (p2_pos i)))]; simp [h.1, h.2, bitT]
  · rw [Bool.eq_iff_iff]; simp; omega
theorem c82 (b : Bool) : PC Try.prog 82 [.bool b] (.int .u64 (if b = true then 1 else 0)) := by
  refine PC.start 4 Try.call82 Try.func82 rfl Try.ntmps82 Try.results82 (by simp only [go_sem]; exact rfl) fun z hz => ?_
  refine AW.regR rfl (by simp (maxSteps := 1000000) only [go_sem] <;> exact rfl) (by first | (simp (disch := omega) only [go_sem, w64, wU] <;> exact rfl) | exact rfl) ?_
  refine AW.seq ?_
  refine AW.regR rfl (by simp (maxSteps := 1000000) only [go_sem] <;> exact rfl) (by first | (simp (disch := omega) only [go_sem, w64, wU] <;> exact rfl) | exact rfl) ?_
  refine AW.cond (by simp (maxSteps := 1000000) only [go_sem] <;> exact rfl) (fun hc1 => ?_) (fun hc1 => ?_)
  · try simp only [decide_eq_true_eq, decide_eq_false_iff_not, Bool.or_eq_true, Bool.or_eq_false_iff, Bool.and_eq_true, Bool.and_eq_false_imp, Bool.not_eq_true', Bool.not_eq_false'] at hc1
    refine AW.regR rfl (by simp (maxSteps := 1000000) only [go_sem] <;> exact rfl) (by first | (simp (disch := omega) only [go_sem, w64, wU] <;> exact rfl) | exact rfl) ?_
    refine retK.fin rfl (by simp (maxSteps := 1000000) only [go_sem] <;> exact rfl) (by simp (maxSteps := 1000000) only [go_sem] <;> exact rfl) (.of ?_)
    simp [hc1]
  · try simp only [decide_eq_true_eq, decide_eq_false_iff_not, Bool.or_eq_true, Bool.or_eq_false_iff, Bool.and_eq_true, Bool.and_eq_false_imp, Bool.not_eq_true', Bool.not_eq_false'] at hc1
    refine AW.skip ?_
    show AW _ _ _ _ _
    refine AW.regR rfl (by simp (maxSteps := 1000000) only [go_sem] <;> exact rfl) (by first | (simp (disch := omega) only [go_sem, w64, wU] <;> exact rfl) | exact rfl) ?_
    refine retK.fin rfl (by simp (maxSteps := 1000000) only [go_sem] <;> exact rfl) (by simp (maxSteps := 1000000) only [go_sem] <;> exact rfl) (.of ?_)
    simp [hc1]
theorem c81 (w : Int) : PC Try.prog 81 [.int .i64 w] (.int .u64 (maskW w)) := by
  refine PC.start 18 Try.call81 Try.func81 rfl Try.ntmps81 Try.results81 (by simp only [go_sem]; exact rfl) fun z hz => ?_
  refine AW.regR rfl (by simp (maxSteps := 1000000) only [go_sem] <;> exact rfl) (by first | (simp (disch := omega) only [go_sem, w64, wU] <;> exact rfl) | exact rfl) ?_
  refine AW.regR rfl (by simp (maxSteps := 1000000) only [go_sem] <;> exact rfl) (by first | (simp (disch := omega) only [go_sem, w64, wU] <;> exact rfl) | exact rfl) ?_
  refine AW.seq ?_
  refine AW.regR rfl (by simp (maxSteps := 1000000) only [go_sem] <;> exact rfl) (by first | (simp (disch := omega) only [go_sem, w64, wU] <;> exact rfl) | exact rfl) ?_
  refine AW.block ?_
  refine AW.loopV (α := (Int) × (Int)) (fun ((x, i) : (Int) × (Int)) => [(3, .pv (.int .u64 x)), (4, .pv (.int .i64 i))]) (fun ((x, i) : (Int) × (Int)) => []) (fun ((x, i) : (Int) × (Int)) => (0 ≤ i) ∧ (i = 0 ∨ (fitW w ∧ i ≤ w)) ∧ (x = p2 i - 1)) (fun ((x, i) : (Int) × (Int)) => (65 - i).toNat) (0, 0) ?_ ?_ ?_
  · exact ⟨by omega, .inl rfl, by decide⟩
  · refine Wk.to [] [] hz (by decide) ?_ ?_
    · simp (maxSteps := 1000000) (disch := omega) only [go_sem, w64, wU]
    · simp (maxSteps := 1000000) (disch := omega) only [go_sem, w64, wU]
  · rintro ⟨x, i⟩ hF _ ht _ hh
    simp only [updT, go_sem] at ht hh
    subst ht; subst hh
    obtain ⟨h1, h2, h3⟩ := hF
    refine AW.seq ?_
    refine AW.regS rfl ?_
    refine ARN.run1 (by simp (maxSteps := 1000000) only [go_sem] <;> exact rfl) ?_
    refine ARN.pcall (fun hp => c79 w) rfl (by simp (maxSteps := 1000000) only [go_sem] <;> exact rfl) (by simp only [go_sem]) (by simp (maxSteps := 1000000) only [go_sem] <;> exact rfl) ?_
    refine ARN.run1 (by simp (maxSteps := 1000000) only [go_sem] <;> exact rfl) ?_
    refine ARN.fin (by first | (simp (disch := omega) only [go_sem, w64, wU] <;> exact rfl) | exact rfl) ?_
    refine AW.cond (by simp (maxSteps := 1000000) only [go_sem] <;> exact rfl) (fun hc1 => ?_) (fun hc1 => ?_)
    · try simp only [decide_eq_true_eq, decide_eq_false_iff_not, Bool.or_eq_true, Bool.or_eq_false_iff, Bool.and_eq_true, Bool.and_eq_false_imp, Bool.not_eq_true', Bool.not_eq_false'] at hc1
      refine AW.skip ?_
      show AW _ _ _ _ _
      refine AW.seq ?_
      refine AW.block ?_
      have hf : 1 ≤ w ∧ w ≤ 64 := by have := hc1.2; unfold fitW at this; exact this
      have hp := p2_pos i; have hp2 : p2 (i + 1) ≤ 18446744073709551616 := p2_64le (by omega); have hp3 := p2_succ h1
      refine AW.regR1 rfl (by simp (maxSteps := 1000000) only [go_sem] <;> exact rfl) (by first | (simp (disch := omega) only [go_sem, w64, wU] <;> exact rfl) | exact rfl) ?_
      show AW _ _ _ _ _
      refine AW.regR1 rfl (by simp (maxSteps := 1000000) only [go_sem] <;> exact rfl) (by first | (simp (disch := omega) only [go_sem, w64, wU] <;> exact rfl) | exact rfl) ?_
      refine ⟨(x * 2 + 1, i + 1), ?_, ?_, ?_⟩
      · (try dsimp only); omega
      · exact ⟨by omega, .inr ⟨hc1.2, by omega⟩, by omega⟩
      · refine Wk.to [] [] hz (by decide) ?_ ?_
        · simp (maxSteps := 1000000) (disch := omega) only [go_sem, w64, wU]
        · simp (maxSteps := 1000000) (disch := omega) only [go_sem, w64, wU]
    · try simp only [decide_eq_true_eq, decide_eq_false_iff_not, Bool.or_eq_true, Bool.or_eq_false_iff, Bool.and_eq_true, Bool.and_eq_false_imp, Bool.not_eq_true', Bool.not_eq_false'] at hc1
      refine AW.exit ?_
      show AW _ _ _ _ _
      refine AW.regR rfl (by simp (maxSteps := 1000000) only [go_sem] <;> exact rfl) (by first | (simp (disch := omega) only [go_sem, w64, wU] <;> exact rfl) | exact rfl) ?_
      refine retK.fin rfl (by simp (maxSteps := 1000000) only [go_sem] <;> exact rfl) (by simp (maxSteps := 1000000) only [go_sem] <;> exact rfl) (.of ?_)
      unfold maskW
      by_cases hf : fitW w
      · rw [if_pos hf]; have hwi : i = w := by (have hf2 := hf; unfold fitW at hf2; rcases h2 with rfl | ⟨_, hle⟩ <;> (have := hc1; simp [hf] at this; omega))
        rw [h3, hwi]
      · rw [if_neg hf]; rcases h2 with rfl | ⟨hf', _⟩
        · rw [h3]; rfl
        · exact absurd hf' hf
theorem c80 (w x : Int) : PC Try.prog 80 [.int .i64 w, .int .u64 x] (.int .u64 (cutW w x)) := by
  refine PC.start 9 Try.call80 Try.func80 rfl Try.ntmps80 Try.results80 (by simp only [go_sem]; exact rfl) fun z hz => ?_
  refine AW.regR rfl (by simp (maxSteps := 1000000) only [go_sem] <;> exact rfl) (by first | (simp (disch := omega) only [go_sem, w64, wU] <;> exact rfl) | exact rfl) ?_
  refine AW.regS rfl ?_
  refine ARN.run1 (by simp (maxSteps := 1000000) only [go_sem] <;> exact rfl) ?_
  refine ARN.pcall (fun hp => c81 _) rfl (by simp (maxSteps := 1000000) only [go_sem] <;> exact rfl) (by simp only [go_sem]) (by simp (maxSteps := 1000000) only [go_sem] <;> exact rfl) ?_
  refine ARN.run1 (by simp (maxSteps := 1000000) only [go_sem] <;> exact rfl) ?_
  refine ARN.fin (by first | (simp (disch := omega) only [go_sem, w64, wU] <;> exact rfl) | exact rfl) ?_
  refine retK.fin rfl (by simp (maxSteps := 1000000) only [go_sem] <;> exact rfl) (by simp (maxSteps := 1000000) only [go_sem] <;> exact rfl) (.of ?_)
  rw [and_mask]
theorem c83 (w x : Int) : PC Try.prog 83 [.int .i64 w, .int .u64 x] (.int .i64 (sgnW w x)) := by
  refine PC.start 22 Try.call83 Try.func83 rfl Try.ntmps83 Try.results83 (by simp only [go_sem]; exact rfl) fun z hz => ?_
  refine AW.regR rfl (by simp (maxSteps := 1000000) only [go_sem] <;> exact rfl) (by first | (simp (disch := omega) only [go_sem, w64, wU] <;> exact rfl) | exact rfl) ?_
  refine AW.seq ?_
  refine AW.regS rfl ?_
  refine ARN.run1 (by simp (maxSteps := 1000000) only [go_sem] <;> exact rfl) ?_
  refine ARN.pcall (fun hp => c79 _) rfl (by simp (maxSteps := 1000000) only [go_sem] <;> exact rfl) (by simp only [go_sem]) (by simp (maxSteps := 1000000) only [go_sem] <;> exact rfl) ?_
  refine ARN.run1 (by simp (maxSteps := 1000000) only [go_sem] <;> exact rfl) ?_
  refine ARN.fin (by first | (simp (disch := omega) only [go_sem, w64, wU] <;> exact rfl) | exact rfl) ?_
  refine AW.cond (by simp (maxSteps := 1000000) only [go_sem] <;> exact rfl) (fun hc1 => ?_) (fun hc1 => ?_)
  · try simp only [decide_eq_true_eq, decide_eq_false_iff_not, Bool.or_eq_true, Bool.or_eq_false_iff, Bool.and_eq_true, Bool.and_eq_false_imp, Bool.not_eq_true', Bool.not_eq_false'] at hc1
    refine AW.regR rfl (by simp (maxSteps := 1000000) only [go_sem] <;> exact rfl) (by first | (simp (disch := omega) only [go_sem, w64, wU] <;> exact rfl) | exact rfl) ?_
    refine retK.fin rfl (by simp (maxSteps := 1000000) only [go_sem] <;> exact rfl) (by simp (maxSteps := 1000000) only [go_sem] <;> exact rfl) (.of ?_)
    simp [sgnW, hc1]
  · try simp only [decide_eq_true_eq, decide_eq_false_iff_not, Bool.or_eq_true, Bool.or_eq_false_iff, Bool.and_eq_true, Bool.and_eq_false_imp, Bool.not_eq_true', Bool.not_eq_false'] at hc1
    refine AW.skip ?_
    show AW _ _ _ _ _
    have hf : fitW w := by simpa using hc1
    have hf2 := hf; unfold fitW at hf2
    refine AW.regS rfl ?_
    refine ARN.run1 (by simp (maxSteps := 1000000) only [go_sem] <;> exact rfl) ?_
    refine ARN.pcall (fun hp => c80 _ _) rfl (by simp (maxSteps := 1000000) only [go_sem] <;> exact rfl) (by simp only [go_sem]) (by simp (maxSteps := 1000000) only [go_sem] <;> exact rfl) ?_
    refine ARN.run1 (by simp (maxSteps := 1000000) only [go_sem] <;> exact rfl) ?_
    refine ARN.fin (by first | (simp (disch := omega) only [go_sem, w64, wU] <;> exact rfl) | exact rfl) ?_
    refine AW.seq ?_
    have hw : IntKind.i64.wrap (w - 1) = w - 1 := w64 (by omega) (by omega)
    refine AW.regS rfl ?_
    refine ARN.run1 (by simp (maxSteps := 1000000) only [go_sem, hw] <;> exact rfl) ?_
    refine ARN.pcall (fun hp => c127 _ _ cutW_W) rfl (by simp (maxSteps := 1000000) only [go_sem, hw] <;> exact rfl) (by simp only [go_sem]) (by simp (maxSteps := 1000000) only [go_sem, hw] <;> exact rfl) ?_
    refine ARN.fin (by first | (simp (disch := omega) only [go_sem, w64, wU, hw] <;> exact rfl) | exact rfl) ?_
    refine AW.cond (by simp (maxSteps := 1000000) only [go_sem, hw] <;> exact rfl) (fun hc2 => ?_) (fun hc2 => ?_)
    · try simp only [decide_eq_true_eq, decide_eq_false_iff_not, Bool.or_eq_true, Bool.or_eq_false_iff, Bool.and_eq_true, Bool.and_eq_false_imp, Bool.not_eq_true', Bool.not_eq_false'] at hc2
      refine AW.reg rfl ?_
      refine ARN.run1 (by simp (maxSteps := 1000000) only [go_sem, hw] <;> exact rfl) ?_
      refine ARN.pcall (fun hp => c81 _) rfl (by simp (maxSteps := 1000000) only [go_sem, hw] <;> exact rfl) (by simp only [go_sem]) (by simp (maxSteps := 1000000) only [go_sem, hw] <;> exact rfl) ?_
      refine ARN.run1 (by simp (maxSteps := 1000000) only [go_sem, hw] <;> exact rfl) ?_
      refine ARN.fin1 (by first | (simp (disch := omega) only [go_sem, w64, wU, hw] <;> exact rfl) | exact rfl) ?_
      show AW _ _ _ _ _
      refine AW.regR rfl (by simp (maxSteps := 1000000) only [go_sem, hw] <;> exact rfl) (by first | (simp (disch := omega) only [go_sem, w64, wU, hw] <;> exact rfl) | exact rfl) ?_
      refine retK.fin rfl (by simp (maxSteps := 1000000) only [go_sem, hw] <;> exact rfl) (by simp (maxSteps := 1000000) only [go_sem, hw] <;> exact rfl) (.of ?_)
      rw [sgn_set hf hc2.2]
    · try simp only [decide_eq_true_eq, decide_eq_false_iff_not, Bool.or_eq_true, Bool.or_eq_false_iff, Bool.and_eq_true, Bool.and_eq_false_imp, Bool.not_eq_true', Bool.not_eq_false'] at hc2
      refine AW.skip ?_
      show AW _ _ _ _ _
      refine AW.regR rfl (by simp (maxSteps := 1000000) only [go_sem, hw] <;> exact rfl) (by first | (simp (disch := omega) only [go_sem, w64, wU, hw] <;> exact rfl) | exact rfl) ?_
      refine retK.fin rfl (by simp (maxSteps := 1000000) only [go_sem, hw] <;> exact rfl) (by simp (maxSteps := 1000000) only [go_sem, hw] <;> exact rfl) (.of ?_)
      rw [sgn_clear hf (fun h => by have := hc2 (by omega); rw [h] at this; cases this)]
theorem c128 (w a d : Int) (fill : Bool) (T : Int) (hw : fitW w) (ha : W64 a) (hd : -64 ≤ d ∧ d ≤ 64) (hT : ∀ i, 0 ≤ i → i < w → bitM w a d fill i = bitT T i) : PC Try.prog 128 [.int .i64 w, .int .u64 a, .int .i64 d, .bool fill] (.int .u64 (T % p2 w)) := by
  refine PC.start 38 Try.call128 Try.func128 rfl Try.ntmps128 Try.results128 (by simp only [go_sem]; exact rfl) fun z hz => ?_
  have hf := hw; unfold fitW at hf
  refine AW.regR rfl (by simp (maxSteps := 1000000) only [go_sem] <;> exact rfl) (by first | (simp (disch := omega) only [go_sem, w64, wU] <;> exact rfl) | exact rfl) ?_
  refine AW.regR rfl (by simp (maxSteps := 1000000) only [go_sem] <;> exact rfl) (by first | (simp (disch := omega) only [go_sem, w64, wU] <;> exact rfl) | exact rfl) ?_
  refine AW.seq ?_
  refine AW.regR rfl (by simp (maxSteps := 1000000) only [go_sem] <;> exact rfl) (by first | (simp (disch := omega) only [go_sem, w64, wU] <;> exact rfl) | exact rfl) ?_
  refine AW.block ?_
  refine AW.loopV (α := (Int) × (Int)) (fun ((x, i) : (Int) × (Int)) => [(9, .pv (.int .u64 x)), (10, .pv (.int .i64 i))]) (fun ((x, i) : (Int) × (Int)) => []) (fun ((x, i) : (Int) × (Int)) => (0 ≤ i) ∧ (i ≤ w) ∧ (x = T % p2 i)) (fun ((x, i) : (Int) × (Int)) => (65 - i).toNat) (0, 0) ?_ ?_ ?_
  · exact ⟨by omega, by omega, by (show (0 : Int) = T % p2 0); rw [show p2 0 = 1 by decide, Int.emod_one]⟩
  · refine Wk.to [] [] hz (by decide) ?_ ?_
    · simp (maxSteps := 1000000) (disch := omega) only [go_sem, w64, wU]
    · simp (maxSteps := 1000000) (disch := omega) only [go_sem, w64, wU]
  · rintro ⟨x, i⟩ hF _ ht _ hh
    simp only [updT, go_sem] at ht hh
    subst ht; subst hh
    obtain ⟨h1, h2, h3⟩ := hF
    refine AW.seq ?_
    refine AW.regR rfl (by simp (maxSteps := 1000000) only [go_sem] <;> exact rfl) (by first | (simp (disch := omega) only [go_sem, w64, wU] <;> exact rfl) | exact rfl) ?_
    refine AW.cond (by simp (maxSteps := 1000000) only [go_sem] <;> exact rfl) (fun hc1 => ?_) (fun hc1 => ?_)
    · try simp only [decide_eq_true_eq, decide_eq_false_iff_not, Bool.or_eq_true, Bool.or_eq_false_iff, Bool.and_eq_true, Bool.and_eq_false_imp, Bool.not_eq_true', Bool.not_eq_false'] at hc1
      refine AW.skip ?_
      show AW _ _ _ _ _
      refine AW.seq ?_
      refine AW.block ?_
      refine AW.regR rfl (by simp (maxSteps := 1000000) only [go_sem] <;> exact rfl) (by first | (simp (disch := omega) only [go_sem, w64, wU] <;> exact rfl) | exact rfl) ?_
      refine AW.regR rfl (by simp (maxSteps := 1000000) only [go_sem] <;> exact rfl) (by first | (simp (disch := omega) only [go_sem, w64, wU] <;> exact rfl) | exact rfl) ?_
      refine AW.joinV (α := (Bool)) (fun (b : (Bool)) => [(12, .pv (.bool b))]) (fun (b : (Bool)) => []) (fun (b : (Bool)) => (b = bitM w a d fill i)) ?_ ?_
      · skip
        refine AW.regR rfl (by simp (maxSteps := 1000000) only [go_sem] <;> exact rfl) (by first | (simp (disch := omega) only [go_sem, w64, wU] <;> exact rfl) | exact rfl) ?_
        refine AW.cond (by simp (maxSteps := 1000000) only [go_sem] <;> exact rfl) (fun hc2 => ?_) (fun hc2 => ?_)
        · try simp only [decide_eq_true_eq, decide_eq_false_iff_not, Bool.or_eq_true, Bool.or_eq_false_iff, Bool.and_eq_true, Bool.and_eq_false_imp, Bool.not_eq_true', Bool.not_eq_false'] at hc2
          refine AW.regR1 rfl (by simp (maxSteps := 1000000) only [go_sem] <;> exact rfl) (by first | (simp (disch := omega) only [go_sem, w64, wU] <;> exact rfl) | exact rfl) ?_
          refine ⟨fill, ?_, ?_⟩
          · show fill = _
            unfold bitM; rw [if_pos (by omega)]
          · refine Wk.to [] [] hz (by decide) ?_ ?_
            · simp (maxSteps := 1000000) (disch := omega) only [go_sem, w64, wU]
            · simp (maxSteps := 1000000) (disch := omega) only [go_sem, w64, wU]
        · try simp only [decide_eq_true_eq, decide_eq_false_iff_not, Bool.or_eq_true, Bool.or_eq_false_iff, Bool.and_eq_true, Bool.and_eq_false_imp, Bool.not_eq_true', Bool.not_eq_false'] at hc2
          refine AW.regR rfl (by simp (maxSteps := 1000000) only [go_sem] <;> exact rfl) (by first | (simp (disch := omega) only [go_sem, w64, wU] <;> exact rfl) | exact rfl) ?_
          refine AW.cond (by simp (maxSteps := 1000000) only [go_sem] <;> exact rfl) (fun hc3 => ?_) (fun hc3 => ?_)
          · try simp only [decide_eq_true_eq, decide_eq_false_iff_not, Bool.or_eq_true, Bool.or_eq_false_iff, Bool.and_eq_true, Bool.and_eq_false_imp, Bool.not_eq_true', Bool.not_eq_false'] at hc3
            refine AW.reg rfl ?_
            refine ARN.run1 (by simp (maxSteps := 1000000) only [go_sem] <;> exact rfl) ?_
            refine ARN.pcall (fun hp => c127 _ _ ha) rfl (by simp (maxSteps := 1000000) only [go_sem] <;> exact rfl) (by simp only [go_sem]) (by simp (maxSteps := 1000000) only [go_sem] <;> exact rfl) ?_
            refine ARN.run1 (by simp (maxSteps := 1000000) only [go_sem] <;> exact rfl) ?_
            refine ARN.fin1 (by first | (simp (disch := omega) only [go_sem, w64, wU] <;> exact rfl) | exact rfl) ?_
            refine ⟨(decide (0 ≤ i - d ∧ i - d < 64) && bitT a (i - d)), ?_, ?_⟩
            · show (decide (0 ≤ i - d ∧ i - d < 64) && bitT a (i - d)) = _
              unfold bitM; rw [if_neg (by omega), if_pos (by omega)]; simp; omega
            · refine Wk.to [] [] hz (by decide) ?_ ?_
              · simp (maxSteps := 1000000) (disch := omega) only [go_sem, w64, wU]
              · simp (maxSteps := 1000000) (disch := omega) only [go_sem, w64, wU]
          · try simp only [decide_eq_true_eq, decide_eq_false_iff_not, Bool.or_eq_true, Bool.or_eq_false_iff, Bool.and_eq_true, Bool.and_eq_false_imp, Bool.not_eq_true', Bool.not_eq_false'] at hc3
            refine AW.skip ?_
            refine ⟨false, ?_, ?_⟩
            · show false = _
              unfold bitM; rw [if_neg (by omega), if_neg (by omega)]
            · refine Wk.to [] [] hz (by decide) ?_ ?_
              · simp (maxSteps := 1000000) (disch := omega) only [go_sem, w64, wU]
              · simp (maxSteps := 1000000) (disch := omega) only [go_sem, w64, wU]
      · rintro b hF _ ht _ hh
        simp only [updT, go_sem] at ht hh
        subst ht; subst hh
        have hb := hF
        refine AW.reg rfl ?_
        refine ARN.run1 (by simp (maxSteps := 1000000) only [go_sem] <;> exact rfl) ?_
        refine ARN.pcall (fun hp => c82 _) rfl (by simp (maxSteps := 1000000) only [go_sem] <;> exact rfl) (by simp only [go_sem]) (by simp (maxSteps := 1000000) only [go_sem] <;> exact rfl) ?_
        refine ARN.run1 (by simp (maxSteps := 1000000) only [go_sem] <;> exact rfl) ?_
        refine ARN.fin1 (by first | (simp (disch := omega) only [go_sem, w64, wU] <;> exact rfl) | exact rfl) ?_
        show AW _ _ _ _ _
        refine AW.regR1 rfl (by simp (maxSteps := 1000000) only [go_sem] <;> exact rfl) (by first | (simp (disch := omega) only [go_sem, w64, wU] <;> exact rfl) | exact rfl) ?_
        refine ⟨(ior .u64 x (ishl .u64 (if b = true then 1 else 0) i), i + 1), ?_, ?_, ?_⟩
        · (try dsimp only); omega
        · exact ⟨by omega, by omega, bit_nextS h1 h3 (by omega) (hb.trans (hT i h1 (by omega)))⟩
        · refine Wk.to [] [] hz (by decide) ?_ ?_
          · simp (maxSteps := 1000000) (disch := omega) only [go_sem, w64, wU]
          · simp (maxSteps := 1000000) (disch := omega) only [go_sem, w64, wU]
    · try simp only [decide_eq_true_eq, decide_eq_false_iff_not, Bool.or_eq_true, Bool.or_eq_false_iff, Bool.and_eq_true, Bool.and_eq_false_imp, Bool.not_eq_true', Bool.not_eq_false'] at hc1
      refine AW.exit ?_
      show AW _ _ _ _ _
      refine AW.regR rfl (by simp (maxSteps := 1000000) only [go_sem] <;> exact rfl) (by first | (simp (disch := omega) only [go_sem, w64, wU] <;> exact rfl) | exact rfl) ?_
      refine retK.fin rfl (by simp (maxSteps := 1000000) only [go_sem] <;> exact rfl) (by simp (maxSteps := 1000000) only [go_sem] <;> exact rfl) (.of ?_)
      rw [h3, show i = w by omega]
theorem c84 (op w a b : Int) (hw : fitW w) (ha : 0 ≤ a) (hA : a < p2 w) (hb : W64 b) : PC Try.prog 84 [.int .i64 op, .int .i64 w, .int .u64 a, .int .u64 b] (.int .u64 (shT op w a b % p2 w)) := by
  refine PC.start 37 Try.call84 Try.func84 rfl Try.ntmps84 Try.results84 (by simp only [go_sem]; exact rfl) fun z hz => ?_
  have hf := hw; unfold fitW at hf; have hq := p2_64le hf.2; have hb2 := hb; unfold W64 at hb2
  have hsg := sgn_neg_bit hw ha hA
  refine AW.regR rfl (by simp (maxSteps := 1000000) only [go_sem] <;> exact rfl) (by first | (simp (disch := omega) only [go_sem, w64, wU] <;> exact rfl) | exact rfl) ?_
  refine AW.regR rfl (by simp (maxSteps := 1000000) only [go_sem] <;> exact rfl) (by first | (simp (disch := omega) only [go_sem, w64, wU] <;> exact rfl) | exact rfl) ?_
  refine AW.seq ?_
  refine AW.regR rfl (by simp (maxSteps := 1000000) only [go_sem] <;> exact rfl) (by first | (simp (disch := omega) only [go_sem, w64, wU] <;> exact rfl) | exact rfl) ?_
  refine AW.cond (by simp (maxSteps := 1000000) only [go_sem] <;> exact rfl) (fun hc1 => ?_) (fun hc1 => ?_)
  · try simp only [decide_eq_true_eq, decide_eq_false_iff_not, Bool.or_eq_true, Bool.or_eq_false_iff, Bool.and_eq_true, Bool.and_eq_false_imp, Bool.not_eq_true', Bool.not_eq_false'] at hc1
    have hng : IntKind.i64.wrap (0 - b) = -b := by rw [w64 (by omega) (by omega)]; omega
    refine AW.regR1 rfl (by simp (maxSteps := 1000000) only [go_sem, hng] <;> exact rfl) (by first | (simp (disch := omega) only [go_sem, w64, wU, hng] <;> exact rfl) | exact rfl) ?_
    show AW _ _ _ _ _
    refine AW.seq ?_
    refine AW.regR rfl (by simp (maxSteps := 1000000) only [go_sem, hng] <;> exact rfl) (by first | (simp (disch := omega) only [go_sem, w64, wU, hng] <;> exact rfl) | exact rfl) ?_
    refine AW.block ?_
    refine AW.regR rfl (by simp (maxSteps := 1000000) only [go_sem, hng] <;> exact rfl) (by first | (simp (disch := omega) only [go_sem, w64, wU, hng] <;> exact rfl) | exact rfl) ?_
    refine AW.cond (by simp (maxSteps := 1000000) only [go_sem, hng] <;> exact rfl) (fun hc2 => ?_) (fun hc2 => ?_)
    · try simp only [decide_eq_true_eq, decide_eq_false_iff_not, Bool.or_eq_true, Bool.or_eq_false_iff, Bool.and_eq_true, Bool.and_eq_false_imp, Bool.not_eq_true', Bool.not_eq_false'] at hc2
      refine AW.regS rfl ?_
      refine ARN.run1 (by simp (maxSteps := 1000000) only [go_sem, hng] <;> exact rfl) ?_
      refine ARN.pcall (fun hp => c128 w a b false (a * p2 b) hw ⟨ha, by omega⟩ (by omega) (fun i h0 hi => bitM_shl hb2.1 h0 hi)) rfl (by simp (maxSteps := 1000000) only [go_sem, hng] <;> exact rfl) (by simp only [go_sem]) (by simp (maxSteps := 1000000) only [go_sem, hng] <;> exact rfl) ?_
      refine ARN.run1 (by simp (maxSteps := 1000000) only [go_sem, hng] <;> exact rfl) ?_
      refine ARN.fin (by first | (simp (disch := omega) only [go_sem, w64, wU, hng] <;> exact rfl) | exact rfl) ?_
      refine retK.fin rfl (by simp (maxSteps := 1000000) only [go_sem, hng] <;> exact rfl) (by simp (maxSteps := 1000000) only [go_sem, hng] <;> exact rfl) (.of ?_)
      simp [shT, *]
    · try simp only [decide_eq_true_eq, decide_eq_false_iff_not, Bool.or_eq_true, Bool.or_eq_false_iff, Bool.and_eq_true, Bool.and_eq_false_imp, Bool.not_eq_true', Bool.not_eq_false'] at hc2
      refine AW.regR rfl (by simp (maxSteps := 1000000) only [go_sem, hng] <;> exact rfl) (by first | (simp (disch := omega) only [go_sem, w64, wU, hng] <;> exact rfl) | exact rfl) ?_
      refine AW.cond (by simp (maxSteps := 1000000) only [go_sem, hng] <;> exact rfl) (fun hc3 => ?_) (fun hc3 => ?_)
      · try simp only [decide_eq_true_eq, decide_eq_false_iff_not, Bool.or_eq_true, Bool.or_eq_false_iff, Bool.and_eq_true, Bool.and_eq_false_imp, Bool.not_eq_true', Bool.not_eq_false'] at hc3
        refine AW.regS rfl ?_
        refine ARN.run1 (by simp (maxSteps := 1000000) only [go_sem, hng] <;> exact rfl) ?_
        refine ARN.pcall (fun hp => c128 w a (-b) false (a / p2 b) hw ⟨ha, by omega⟩ (by omega) (fun i h0 hi => bitM_shr hb2.1 ha hA h0)) rfl (by simp (maxSteps := 1000000) only [go_sem, hng] <;> exact rfl) (by simp only [go_sem]) (by simp (maxSteps := 1000000) only [go_sem, hng] <;> exact rfl) ?_
        refine ARN.run1 (by simp (maxSteps := 1000000) only [go_sem, hng] <;> exact rfl) ?_
        refine ARN.fin (by first | (simp (disch := omega) only [go_sem, w64, wU, hng] <;> exact rfl) | exact rfl) ?_
        refine retK.fin rfl (by simp (maxSteps := 1000000) only [go_sem, hng] <;> exact rfl) (by simp (maxSteps := 1000000) only [go_sem, hng] <;> exact rfl) (.of ?_)
        simp [shT, *]
      · try simp only [decide_eq_true_eq, decide_eq_false_iff_not, Bool.or_eq_true, Bool.or_eq_false_iff, Bool.and_eq_true, Bool.and_eq_false_imp, Bool.not_eq_true', Bool.not_eq_false'] at hc3
        refine AW.skip ?_
        show AW _ _ _ _ _
        have hw1 : IntKind.i64.wrap (w - 1) = w - 1 := w64 (by omega) (by omega)
        refine AW.regS rfl ?_
        refine ARN.run1 (by simp (maxSteps := 1000000) only [go_sem, hng, hw1] <;> exact rfl) ?_
        refine ARN.pcall (fun hp => c127 a (w - 1) ⟨ha, by omega⟩) rfl (by simp (maxSteps := 1000000) only [go_sem, hng, hw1] <;> exact rfl) (by simp only [go_sem]) (by simp (maxSteps := 1000000) only [go_sem, hng, hw1] <;> exact rfl) ?_
        refine ARN.pcall (fun hp => c128 w a (-b) (decide (0 ≤ w - 1 ∧ w - 1 < 64) && bitT a (w - 1)) (sgnW w a / p2 b) hw ⟨ha, by omega⟩ (by omega) (fun i h0 hi => by rw [← bitM_sar hw hb2.1 ha hA h0]; simp; congr 1; simp; omega)) rfl (by simp (maxSteps := 1000000) only [go_sem, hng, hw1] <;> exact rfl) (by simp only [go_sem]) (by simp (maxSteps := 1000000) only [go_sem, hng, hw1] <;> exact rfl) ?_
        refine ARN.run1 (by simp (maxSteps := 1000000) only [go_sem, hng, hw1] <;> exact rfl) ?_
        refine ARN.fin (by first | (simp (disch := omega) only [go_sem, w64, wU, hng, hw1] <;> exact rfl) | exact rfl) ?_
        refine retK.fin rfl (by simp (maxSteps := 1000000) only [go_sem, hng, hw1] <;> exact rfl) (by simp (maxSteps := 1000000) only [go_sem, hng, hw1] <;> exact rfl) (.of ?_)
        simp [shT, *]
  · try simp only [decide_eq_true_eq, decide_eq_false_iff_not, Bool.or_eq_true, Bool.or_eq_false_iff, Bool.and_eq_true, Bool.and_eq_false_imp, Bool.not_eq_true', Bool.not_eq_false'] at hc1
    have hng : IntKind.i64.wrap (-64) = -64 := by decide
    refine AW.skip ?_
    show AW _ _ _ _ _
    refine AW.seq ?_
    refine AW.regR rfl (by simp (maxSteps := 1000000) only [go_sem, hng] <;> exact rfl) (by first | (simp (disch := omega) only [go_sem, w64, wU, hng] <;> exact rfl) | exact rfl) ?_
    refine AW.block ?_
    refine AW.regR rfl (by simp (maxSteps := 1000000) only [go_sem, hng] <;> exact rfl) (by first | (simp (disch := omega) only [go_sem, w64, wU, hng] <;> exact rfl) | exact rfl) ?_
    refine AW.cond (by simp (maxSteps := 1000000) only [go_sem, hng] <;> exact rfl) (fun hc4 => ?_) (fun hc4 => ?_)
    · try simp only [decide_eq_true_eq, decide_eq_false_iff_not, Bool.or_eq_true, Bool.or_eq_false_iff, Bool.and_eq_true, Bool.and_eq_false_imp, Bool.not_eq_true', Bool.not_eq_false'] at hc4
      refine AW.regS rfl ?_
      refine ARN.run1 (by simp (maxSteps := 1000000) only [go_sem, hng] <;> exact rfl) ?_
      refine ARN.pcall (fun hp => c128 w a 64 false (a * p2 64) hw ⟨ha, by omega⟩ (by omega) (fun i h0 hi => bitM_shl (by omega) h0 hi)) rfl (by simp (maxSteps := 1000000) only [go_sem, hng] <;> exact rfl) (by simp only [go_sem]) (by simp (maxSteps := 1000000) only [go_sem, hng] <;> exact rfl) ?_
      refine ARN.run1 (by simp (maxSteps := 1000000) only [go_sem, hng] <;> exact rfl) ?_
      refine ARN.fin (by first | (simp (disch := omega) only [go_sem, w64, wU, hng] <;> exact rfl) | exact rfl) ?_
      refine retK.fin rfl (by simp (maxSteps := 1000000) only [go_sem, hng] <;> exact rfl) (by simp (maxSteps := 1000000) only [go_sem, hng] <;> exact rfl) (.of ?_)
      simp [shT, *]
    · try simp only [decide_eq_true_eq, decide_eq_false_iff_not, Bool.or_eq_true, Bool.or_eq_false_iff, Bool.and_eq_true, Bool.and_eq_false_imp, Bool.not_eq_true', Bool.not_eq_false'] at hc4
      refine AW.regR rfl (by simp (maxSteps := 1000000) only [go_sem, hng] <;> exact rfl) (by first | (simp (disch := omega) only [go_sem, w64, wU, hng] <;> exact rfl) | exact rfl) ?_
      refine AW.cond (by simp (maxSteps := 1000000) only [go_sem, hng] <;> exact rfl) (fun hc5 => ?_) (fun hc5 => ?_)
      · try simp only [decide_eq_true_eq, decide_eq_false_iff_not, Bool.or_eq_true, Bool.or_eq_false_iff, Bool.and_eq_true, Bool.and_eq_false_imp, Bool.not_eq_true', Bool.not_eq_false'] at hc5
        refine AW.regS rfl ?_
        refine ARN.run1 (by simp (maxSteps := 1000000) only [go_sem, hng] <;> exact rfl) ?_
        refine ARN.pcall (fun hp => c128 w a (-64) false (a / p2 64) hw ⟨ha, by omega⟩ (by omega) (fun i h0 hi => bitM_shr (by omega) ha hA h0)) rfl (by simp (maxSteps := 1000000) only [go_sem, hng] <;> exact rfl) (by simp only [go_sem]) (by simp (maxSteps := 1000000) only [go_sem, hng] <;> exact rfl) ?_
        refine ARN.run1 (by simp (maxSteps := 1000000) only [go_sem, hng] <;> exact rfl) ?_
        refine ARN.fin (by first | (simp (disch := omega) only [go_sem, w64, wU, hng] <;> exact rfl) | exact rfl) ?_
        refine retK.fin rfl (by simp (maxSteps := 1000000) only [go_sem, hng] <;> exact rfl) (by simp (maxSteps := 1000000) only [go_sem, hng] <;> exact rfl) (.of ?_)
        simp [shT, *]
      · try simp only [decide_eq_true_eq, decide_eq_false_iff_not, Bool.or_eq_true, Bool.or_eq_false_iff, Bool.and_eq_true, Bool.and_eq_false_imp, Bool.not_eq_true', Bool.not_eq_false'] at hc5
        refine AW.skip ?_
        show AW _ _ _ _ _
        have hw1 : IntKind.i64.wrap (w - 1) = w - 1 := w64 (by omega) (by omega)
        refine AW.regS rfl ?_
        refine ARN.run1 (by simp (maxSteps := 1000000) only [go_sem, hng, hw1] <;> exact rfl) ?_
        refine ARN.pcall (fun hp => c127 a (w - 1) ⟨ha, by omega⟩) rfl (by simp (maxSteps := 1000000) only [go_sem, hng, hw1] <;> exact rfl) (by simp only [go_sem]) (by simp (maxSteps := 1000000) only [go_sem, hng, hw1] <;> exact rfl) ?_
        refine ARN.pcall (fun hp => c128 w a (-64) (decide (0 ≤ w - 1 ∧ w - 1 < 64) && bitT a (w - 1)) (sgnW w a / p2 64) hw ⟨ha, by omega⟩ (by omega) (fun i h0 hi => by rw [← bitM_sar hw (by omega) ha hA h0]; simp; congr 1; simp; omega)) rfl (by simp (maxSteps := 1000000) only [go_sem, hng, hw1] <;> exact rfl) (by simp only [go_sem]) (by simp (maxSteps := 1000000) only [go_sem, hng, hw1] <;> exact rfl) ?_
        refine ARN.run1 (by simp (maxSteps := 1000000) only [go_sem, hng, hw1] <;> exact rfl) ?_
        refine ARN.fin (by first | (simp (disch := omega) only [go_sem, w64, wU, hng, hw1] <;> exact rfl) | exact rfl) ?_
        refine retK.fin rfl (by simp (maxSteps := 1000000) only [go_sem, hng, hw1] <;> exact rfl) (by simp (maxSteps := 1000000) only [go_sem, hng, hw1] <;> exact rfl) (.of ?_)
        simp [shT, *]
end Go.Ab.Try
