/- Registers that are known: behind an instruction; what two know. -/
import Derived.Test.YtlgfbiepbneihaaKnF
namespace Go.Ab.Try
open Go.Proofs Go.Ab
set_option linter.unusedVariables false
set_option linter.unusedSimpArgs false
set_option linter.unnecessarySimpa false
set_option maxRecDepth 100000
theorem c68 (a b : Fa) : PC Try.prog 68 [.agg (fR a), .agg (fR b)] (.agg (fR (joinF a b))) := by
  refine PC.start 45 Try.call68 Try.func68 rfl Try.ntmps68 Try.results68 (by simp only [go_sem]; exact rfl) fun z hz => ?_
  refine AW.regR rfl (by simp (maxSteps := 1000000) only [go_sem] <;> exact rfl) (by first | (simp (disch := omega) only [go_sem, w64, wU] <;> exact rfl) | exact rfl) ?_
  refine AW.seq ?_
  refine AW.regR rfl (by simp (maxSteps := 1000000) only [go_sem] <;> exact rfl) (by first | (simp (disch := omega) only [go_sem, w64, wU] <;> exact rfl) | exact rfl) ?_
  refine AW.cond (by simp (maxSteps := 1000000) only [go_sem] <;> exact rfl) (fun hc1 => ?_) (fun hc1 => ?_)
  · try simp only [decide_eq_true_eq, decide_eq_false_iff_not, Bool.or_eq_true, Bool.or_eq_false_iff, Bool.and_eq_true, Bool.and_eq_false_imp, Bool.not_eq_true', Bool.not_eq_false'] at hc1
    refine AW.regR rfl (by simp (maxSteps := 1000000) only [go_sem] <;> exact rfl) (by first | (simp (disch := omega) only [go_sem, w64, wU] <;> exact rfl) | exact rfl) ?_
    refine retK.fin rfl (by simp (maxSteps := 1000000) only [go_sem] <;> exact rfl) (by simp (maxSteps := 1000000) only [go_sem] <;> exact rfl) (.of ?_)
    unfold joinF; rw [if_pos (by simpa using hc1)]; rfl
  · try simp only [decide_eq_true_eq, decide_eq_false_iff_not, Bool.or_eq_true, Bool.or_eq_false_iff, Bool.and_eq_true, Bool.and_eq_false_imp, Bool.not_eq_true', Bool.not_eq_false'] at hc1
    refine AW.skip ?_
    show AW _ _ _ _ _
    refine AW.seq ?_
    refine AW.regR rfl (by simp (maxSteps := 1000000) only [go_sem] <;> exact rfl) (by first | (simp (disch := omega) only [go_sem, w64, wU] <;> exact rfl) | exact rfl) ?_
    refine AW.cond (by simp (maxSteps := 1000000) only [go_sem] <;> exact rfl) (fun hc2 => ?_) (fun hc2 => ?_)
    · try simp only [decide_eq_true_eq, decide_eq_false_iff_not, Bool.or_eq_true, Bool.or_eq_false_iff, Bool.and_eq_true, Bool.and_eq_false_imp, Bool.not_eq_true', Bool.not_eq_false'] at hc2
      refine AW.regR rfl (by simp (maxSteps := 1000000) only [go_sem] <;> exact rfl) (by first | (simp (disch := omega) only [go_sem, w64, wU] <;> exact rfl) | exact rfl) ?_
      refine retK.fin rfl (by simp (maxSteps := 1000000) only [go_sem] <;> exact rfl) (by simp (maxSteps := 1000000) only [go_sem] <;> exact rfl) (.of ?_)
      unfold joinF; rw [if_neg (by simpa using hc1), if_pos (by simpa using hc2)]; rfl
    · try simp only [decide_eq_true_eq, decide_eq_false_iff_not, Bool.or_eq_true, Bool.or_eq_false_iff, Bool.and_eq_true, Bool.and_eq_false_imp, Bool.not_eq_true', Bool.not_eq_false'] at hc2
      refine AW.skip ?_
      show AW _ _ _ _ _
      refine AW.seq ?_
      refine AW.regR rfl (by simp (maxSteps := 1000000) only [go_sem] <;> exact rfl) (by first | (simp (disch := omega) only [go_sem, w64, wU] <;> exact rfl) | exact rfl) ?_
      refine AW.block ?_
      refine AW.loopV (α := (Int) × (Fa)) (fun ((r, g) : (Int) × (Fa)) => [(14, .pv (.int .i64 r))]) (fun ((r, g) : (Int) × (Fa)) => [.box (fA g), .box (fA b), .box fZ]) (fun ((r, g) : (Int) × (Fa)) => (0 ≤ r) ∧ (r ≤ 8) ∧ (InJ a b g r)) (fun ((r, g) : (Int) × (Fa)) => (8 - r).toNat) (0, a) ?_ ?_ ?_
      · exact ⟨by omega, by omega, inj_0⟩
      · refine Wk.to [] [0, 1, 2] hz (by decide) ?_ ?_
        · simp (maxSteps := 1000000) (disch := omega) only [go_sem, w64, wU]
        · simp (maxSteps := 1000000) (disch := omega) only [go_sem, w64, wU]
      · rintro ⟨r, g⟩ hF _ ht _ hh
        simp only [updT, go_sem] at ht hh
        subst ht; subst hh
        obtain ⟨h1, h2, h3⟩ := hF
        refine AW.regR rfl (by simp (maxSteps := 1000000) only [go_sem] <;> exact rfl) (by first | (simp (disch := omega) only [go_sem, w64, wU] <;> exact rfl) | exact rfl) ?_
        refine AW.seq ?_
        refine AW.cond (by simp (maxSteps := 1000000) only [go_sem] <;> exact rfl) (fun hc3 => ?_) (fun hc3 => ?_)
        · try simp only [decide_eq_true_eq, decide_eq_false_iff_not, Bool.or_eq_true, Bool.or_eq_false_iff, Bool.and_eq_true, Bool.and_eq_false_imp, Bool.not_eq_true', Bool.not_eq_false'] at hc3
          have hir : InR8 r := ⟨h1, hc3⟩
          refine AW.skip ?_
          show AW _ _ _ _ _
          refine AW.seq ?_
          refine AW.block ?_
          refine AW.regR rfl (by simp (maxSteps := 1000000) only [go_sem, hir] <;> exact rfl) (by first | (simp (disch := omega) only [go_sem, w64, wU, hir] <;> exact rfl) | exact rfl) ?_
          refine AW.regDS follows (by kernel_rfl) ?_
          refine ARE.run1 (by simp (maxSteps := 1000000) only [go_sem, hir] <;> exact rfl) ?_
          refine ARE.fin [0, 0, 3, 7, 15, 31, 63, 63, 255, 511, 1023, 2047, 4095, 8191, 8191, 32767, 65535, 8191, 8191, 401407, 925695, 2097151, 4194303] _ (by kernel_rfl) (by simp (maxSteps := 1000000) only [go_sem, hir] <;> exact rfl) (by kernel_rfl) (by first | (simp (disch := omega) only [go_sem, w64, wU, hir] <;> exact rfl) | exact rfl) ?_
          refine AW.cond (by simp (maxSteps := 1000000) only [go_sem, hir] <;> exact rfl) (fun hc4 => ?_) (fun hc4 => ?_)
          · skip
            refine AW.reg rfl ?_
            refine ARN.run1 (by simp (maxSteps := 1000000) only [go_sem, hir] <;> exact rfl) ?_
            refine ARN.pcall (fun hp => c95 g r 0 false hir) rfl (by simp (maxSteps := 1000000) only [go_sem, hir] <;> exact rfl) (by simp only [go_sem]) (by simp (maxSteps := 1000000) only [go_sem, hir] <;> exact rfl) ?_
            refine ARN.run1 (by simp (maxSteps := 1000000) only [go_sem, hir] <;> exact rfl) ?_
            refine ARN.fin1 (by first | (simp (disch := omega) only [go_sem, w64, wU, hir] <;> exact rfl) | exact rfl) ?_
            show AW _ _ _ _ _
            refine AW.regR1 rfl (by simp (maxSteps := 1000000) only [go_sem, hir] <;> exact rfl) (by first | (simp (disch := omega) only [go_sem, w64, wU, hir] <;> exact rfl) | exact rfl) ?_
            refine ⟨((r + 1), setF g r false 0), ?_, ?_, ?_⟩
            · (try dsimp only); omega
            · exact ⟨by omega, by omega, inj_no h3 hir (by simp [sameR] at hc4 ⊢; intro q1 q2 q3; simp [q1, q2, q3] at hc4)⟩
            · refine Wk.to [] [0, 1, 2] hz (by decide) ?_ ?_
              · simp (maxSteps := 1000000) (disch := omega) only [go_sem, w64, wU, hir]
              · simp (maxSteps := 1000000) (disch := omega) only [go_sem, w64, wU, hir]
          · skip
            refine AW.skip ?_
            show AW _ _ _ _ _
            refine AW.regR1 rfl (by simp (maxSteps := 1000000) only [go_sem, hir] <;> exact rfl) (by first | (simp (disch := omega) only [go_sem, w64, wU, hir] <;> exact rfl) | exact rfl) ?_
            refine ⟨((r + 1), g), ?_, ?_, ?_⟩
            · (try dsimp only); omega
            · exact ⟨by omega, by omega, inj_yes h3 hir (by simp [sameR] at hc4 ⊢; exact hc4)⟩
            · refine Wk.to [] [0, 1, 2] hz (by decide) ?_ ?_
              · simp (maxSteps := 1000000) (disch := omega) only [go_sem, w64, wU, hir]
              · simp (maxSteps := 1000000) (disch := omega) only [go_sem, w64, wU, hir]
        · try simp only [decide_eq_true_eq, decide_eq_false_iff_not, Bool.or_eq_true, Bool.or_eq_false_iff, Bool.and_eq_true, Bool.and_eq_false_imp, Bool.not_eq_true', Bool.not_eq_false'] at hc3
          refine AW.exit ?_
          show AW _ _ _ _ _
          refine AW.regR rfl (by simp (maxSteps := 1000000) only [go_sem] <;> exact rfl) (by first | (simp (disch := omega) only [go_sem, w64, wU] <;> exact rfl) | exact rfl) ?_
          refine retK.fin rfl (by simp (maxSteps := 1000000) only [go_sem] <;> exact rfl) (by simp (maxSteps := 1000000) only [go_sem] <;> exact rfl) (.of ?_)
          rw [← inj_8 h3 (by omega) (by simpa using hc1) (by simpa using hc2)]; rfl
theorem c69 (a b : Fa) : PC Try.prog 69 [.agg (fR a), .agg (fR b)] (.agg (fR (joinF a b))) := by
  refine PC.start 45 Try.call69 Try.func69 rfl Try.ntmps69 Try.results69 (by simp only [go_sem]; exact rfl) fun z hz => ?_
  refine AW.regR rfl (by simp (maxSteps := 1000000) only [go_sem] <;> exact rfl) (by first | (simp (disch := omega) only [go_sem, w64, wU] <;> exact rfl) | exact rfl) ?_
  refine AW.seq ?_
  refine AW.regR rfl (by simp (maxSteps := 1000000) only [go_sem] <;> exact rfl) (by first | (simp (disch := omega) only [go_sem, w64, wU] <;> exact rfl) | exact rfl) ?_
  refine AW.cond (by simp (maxSteps := 1000000) only [go_sem] <;> exact rfl) (fun hc1 => ?_) (fun hc1 => ?_)
  · try simp only [decide_eq_true_eq, decide_eq_false_iff_not, Bool.or_eq_true, Bool.or_eq_false_iff, Bool.and_eq_true, Bool.and_eq_false_imp, Bool.not_eq_true', Bool.not_eq_false'] at hc1
    refine AW.regR rfl (by simp (maxSteps := 1000000) only [go_sem] <;> exact rfl) (by first | (simp (disch := omega) only [go_sem, w64, wU] <;> exact rfl) | exact rfl) ?_
    refine retK.fin rfl (by simp (maxSteps := 1000000) only [go_sem] <;> exact rfl) (by simp (maxSteps := 1000000) only [go_sem] <;> exact rfl) (.of ?_)
    unfold joinF; rw [if_pos (by simpa using hc1)]; rfl
  · try simp only [decide_eq_true_eq, decide_eq_false_iff_not, Bool.or_eq_true, Bool.or_eq_false_iff, Bool.and_eq_true, Bool.and_eq_false_imp, Bool.not_eq_true', Bool.not_eq_false'] at hc1
    refine AW.skip ?_
    show AW _ _ _ _ _
    refine AW.seq ?_
    refine AW.regR rfl (by simp (maxSteps := 1000000) only [go_sem] <;> exact rfl) (by first | (simp (disch := omega) only [go_sem, w64, wU] <;> exact rfl) | exact rfl) ?_
    refine AW.cond (by simp (maxSteps := 1000000) only [go_sem] <;> exact rfl) (fun hc2 => ?_) (fun hc2 => ?_)
    · try simp only [decide_eq_true_eq, decide_eq_false_iff_not, Bool.or_eq_true, Bool.or_eq_false_iff, Bool.and_eq_true, Bool.and_eq_false_imp, Bool.not_eq_true', Bool.not_eq_false'] at hc2
      refine AW.regR rfl (by simp (maxSteps := 1000000) only [go_sem] <;> exact rfl) (by first | (simp (disch := omega) only [go_sem, w64, wU] <;> exact rfl) | exact rfl) ?_
      refine retK.fin rfl (by simp (maxSteps := 1000000) only [go_sem] <;> exact rfl) (by simp (maxSteps := 1000000) only [go_sem] <;> exact rfl) (.of ?_)
      unfold joinF; rw [if_neg (by simpa using hc1), if_pos (by simpa using hc2)]; rfl
    · try simp only [decide_eq_true_eq, decide_eq_false_iff_not, Bool.or_eq_true, Bool.or_eq_false_iff, Bool.and_eq_true, Bool.and_eq_false_imp, Bool.not_eq_true', Bool.not_eq_false'] at hc2
      refine AW.skip ?_
      show AW _ _ _ _ _
      refine AW.seq ?_
      refine AW.regR rfl (by simp (maxSteps := 1000000) only [go_sem] <;> exact rfl) (by first | (simp (disch := omega) only [go_sem, w64, wU] <;> exact rfl) | exact rfl) ?_
      refine AW.block ?_
      refine AW.loopV (α := (Int) × (Fa)) (fun ((r, g) : (Int) × (Fa)) => [(5, .pv (.int .i64 r))]) (fun ((r, g) : (Int) × (Fa)) => [.box (fA g), .box (fA b), .box fZ]) (fun ((r, g) : (Int) × (Fa)) => (0 ≤ r) ∧ (r ≤ 8) ∧ (InJ a b g r)) (fun ((r, g) : (Int) × (Fa)) => (8 - r).toNat) (0, a) ?_ ?_ ?_
      · exact ⟨by omega, by omega, inj_0⟩
      · refine Wk.to [] [0, 1, 2] hz (by decide) ?_ ?_
        · simp (maxSteps := 1000000) (disch := omega) only [go_sem, w64, wU]
        · simp (maxSteps := 1000000) (disch := omega) only [go_sem, w64, wU]
      · rintro ⟨r, g⟩ hF _ ht _ hh
        simp only [updT, go_sem] at ht hh
        subst ht; subst hh
        obtain ⟨h1, h2, h3⟩ := hF
        refine AW.seq ?_
        refine AW.regR rfl (by simp (maxSteps := 1000000) only [go_sem] <;> exact rfl) (by first | (simp (disch := omega) only [go_sem, w64, wU] <;> exact rfl) | exact rfl) ?_
        refine AW.cond (by simp (maxSteps := 1000000) only [go_sem] <;> exact rfl) (fun hc3 => ?_) (fun hc3 => ?_)
        · try simp only [decide_eq_true_eq, decide_eq_false_iff_not, Bool.or_eq_true, Bool.or_eq_false_iff, Bool.and_eq_true, Bool.and_eq_false_imp, Bool.not_eq_true', Bool.not_eq_false'] at hc3
          have hir : InR8 r := ⟨h1, hc3⟩
          refine AW.skip ?_
          show AW _ _ _ _ _
          refine AW.seq ?_
          refine AW.block ?_
          refine AW.regDS follows (by kernel_rfl) ?_
          refine ARE.run1 (by simp (maxSteps := 1000000) only [go_sem, hir] <;> exact rfl) ?_
          refine ARE.fin [0, 0, 3, 7, 15, 31, 63, 63, 255, 511, 1023, 2047, 4095, 8191, 8191, 32767, 65535, 8191, 8191, 401407, 925695, 2097151, 4194303] _ (by kernel_rfl) (by simp (maxSteps := 1000000) only [go_sem, hir] <;> exact rfl) (by kernel_rfl) (by first | (simp (disch := omega) only [go_sem, w64, wU, hir] <;> exact rfl) | exact rfl) ?_
          refine AW.cond (by simp (maxSteps := 1000000) only [go_sem, hir] <;> exact rfl) (fun hc4 => ?_) (fun hc4 => ?_)
          · skip
            refine AW.reg rfl ?_
            refine ARN.run1 (by simp (maxSteps := 1000000) only [go_sem, hir] <;> exact rfl) ?_
            refine ARN.pcall (fun hp => c99 g r 0 false hir) rfl (by simp (maxSteps := 1000000) only [go_sem, hir] <;> exact rfl) (by simp only [go_sem]) (by simp (maxSteps := 1000000) only [go_sem, hir] <;> exact rfl) ?_
            refine ARN.run1 (by simp (maxSteps := 1000000) only [go_sem, hir] <;> exact rfl) ?_
            refine ARN.fin1 (by first | (simp (disch := omega) only [go_sem, w64, wU, hir] <;> exact rfl) | exact rfl) ?_
            show AW _ _ _ _ _
            refine AW.regR1 rfl (by simp (maxSteps := 1000000) only [go_sem, hir] <;> exact rfl) (by first | (simp (disch := omega) only [go_sem, w64, wU, hir] <;> exact rfl) | exact rfl) ?_
            refine ⟨((r + 1), setF g r false 0), ?_, ?_, ?_⟩
            · (try dsimp only); omega
            · exact ⟨by omega, by omega, inj_no h3 hir (by simp [sameR] at hc4 ⊢; intro q1 q2 q3; simp [q1, q2, q3] at hc4)⟩
            · refine Wk.to [] [0, 1, 2] hz (by decide) ?_ ?_
              · simp (maxSteps := 1000000) (disch := omega) only [go_sem, w64, wU, hir]
              · simp (maxSteps := 1000000) (disch := omega) only [go_sem, w64, wU, hir]
          · skip
            refine AW.skip ?_
            show AW _ _ _ _ _
            refine AW.regR1 rfl (by simp (maxSteps := 1000000) only [go_sem, hir] <;> exact rfl) (by first | (simp (disch := omega) only [go_sem, w64, wU, hir] <;> exact rfl) | exact rfl) ?_
            refine ⟨((r + 1), g), ?_, ?_, ?_⟩
            · (try dsimp only); omega
            · exact ⟨by omega, by omega, inj_yes h3 hir (by simp [sameR] at hc4 ⊢; exact hc4)⟩
            · refine Wk.to [] [0, 1, 2] hz (by decide) ?_ ?_
              · simp (maxSteps := 1000000) (disch := omega) only [go_sem, w64, wU, hir]
              · simp (maxSteps := 1000000) (disch := omega) only [go_sem, w64, wU, hir]
        · try simp only [decide_eq_true_eq, decide_eq_false_iff_not, Bool.or_eq_true, Bool.or_eq_false_iff, Bool.and_eq_true, Bool.and_eq_false_imp, Bool.not_eq_true', Bool.not_eq_false'] at hc3
          refine AW.exit ?_
          show AW _ _ _ _ _
          refine AW.regR rfl (by simp (maxSteps := 1000000) only [go_sem] <;> exact rfl) (by first | (simp (disch := omega) only [go_sem, w64, wU] <;> exact rfl) | exact rfl) ?_
          refine retK.fin rfl (by simp (maxSteps := 1000000) only [go_sem] <;> exact rfl) (by simp (maxSteps := 1000000) only [go_sem] <;> exact rfl) (.of ?_)
          rw [← inj_8 h3 (by omega) (by simpa using hc1) (by simpa using hc2)]; rfl
theorem mn_no {f : Fa} {op a b c : Int} (h : (!f.met || decide (nameS op = ⟨#[]⟩) || !decide (InR8 a ∧ InR8 b ∧ InR8 c)) = false) : f.met = true ∧ namS op a b c := by
  simp only [Bool.or_eq_false_iff, Bool.not_eq_false', decide_eq_false_iff_not, decide_eq_true_eq] at h
  have ho : 1 ≤ op ∧ op ≤ 15 := Classical.byContradiction fun q => h.1.2 (name_out (by omega))
  exact ⟨h.1.1, ho.1, ho.2, h.2⟩
theorem mn_yes {f : Fa} {op a b c : Int} (h : (!f.met || decide (nameS op = ⟨#[]⟩) || !decide (InR8 a ∧ InR8 b ∧ InR8 c)) = true) : ¬ (f.met = true ∧ namS op a b c) := by
  intro q
  have hn := name_in q.2.1 q.2.2.1
  simp only [Bool.or_eq_true, Bool.not_eq_true', decide_eq_false_iff_not, decide_eq_true_eq] at h
  rcases h with (h | h) | h
  · rw [q.1] at h; cases h
  · exact hn h
  · exact h q.2.2.2
theorem c67 (op a b c m : Int) (f : Fa) (hm : W64 m) (hv : ∀ j, InR8 j → W64 (f.val.get j)) : PC Try.prog 67 [.agg [.int .i64 op, .int .i64 a, .int .i64 b, .int .i64 c, .int .u64 m], .agg (fR f)] (.agg (fR (stepF op a b c m f))) := by
  refine PC.start 132 Try.call67 Try.func67 rfl Try.ntmps67 Try.results67 (by simp only [go_sem]; exact rfl) fun z hz => ?_
  refine AW.regR rfl (by simp (maxSteps := 1000000) only [go_sem] <;> exact rfl) (by first | (simp (disch := omega) only [go_sem, w64, wU] <;> exact rfl) | exact rfl) ?_
  refine AW.seq ?_
  refine AW.regS rfl ?_
  refine ARN.run1 (by simp (maxSteps := 1000000) only [go_sem] <;> exact rfl) ?_
  refine ARN.pcall (fun hp => c91 op) rfl (by simp (maxSteps := 1000000) only [go_sem] <;> exact rfl) (by simp only [go_sem]) (by simp (maxSteps := 1000000) only [go_sem] <;> exact rfl) ?_
  refine ARN.run1 (by simp (maxSteps := 1000000) only [go_sem] <;> exact rfl) ?_
  refine ARN.pcall (fun hp => c94 a b c) rfl (by simp (maxSteps := 1000000) only [go_sem] <;> exact rfl) (by simp only [go_sem]) (by simp (maxSteps := 1000000) only [go_sem] <;> exact rfl) ?_
  refine ARN.run1 (by simp (maxSteps := 1000000) only [go_sem] <;> exact rfl) ?_
  refine ARN.fin (by first | (simp (disch := omega) only [go_sem, w64, wU] <;> exact rfl) | exact rfl) ?_
  refine AW.cond (by simp (maxSteps := 1000000) only [go_sem] <;> exact rfl) (fun hc1 => ?_) (fun hc1 => ?_)
  · skip
    refine AW.regR rfl (by simp (maxSteps := 1000000) only [go_sem] <;> exact rfl) (by first | (simp (disch := omega) only [go_sem, w64, wU] <;> exact rfl) | exact rfl) ?_
    refine retK.fin rfl (by simp (maxSteps := 1000000) only [go_sem] <;> exact rfl) (by simp (maxSteps := 1000000) only [go_sem] <;> exact rfl) (.of ?_)
    unfold stepF; rw [if_neg (mn_yes hc1)]; rfl
  · skip
    have hmn : f.met = true ∧ namS op a b c := mn_no hc1
    have ha : InR8 a := hmn.2.2.2.1
    have hb : InR8 b := hmn.2.2.2.2.1
    have hcr : InR8 c := hmn.2.2.2.2.2
    refine AW.skip ?_
    show AW _ _ _ _ _
    refine AW.seq ?_
    refine AW.regR rfl (by simp (maxSteps := 1000000) only [go_sem, hmn, ha, hb, hcr] <;> exact rfl) (by first | (simp (disch := omega) only [go_sem, w64, wU, hmn, ha, hb, hcr] <;> exact rfl) | exact rfl) ?_
    refine AW.block ?_
    refine AW.regR rfl (by simp (maxSteps := 1000000) only [go_sem, hmn, ha, hb, hcr] <;> exact rfl) (by first | (simp (disch := omega) only [go_sem, w64, wU, hmn, ha, hb, hcr] <;> exact rfl) | exact rfl) ?_
    refine AW.cond (by simp (maxSteps := 1000000) only [go_sem, hmn, ha, hb, hcr] <;> exact rfl) (fun hc2 => ?_) (fun hc2 => ?_)
    · try simp only [decide_eq_true_eq, decide_eq_false_iff_not, Bool.or_eq_true, Bool.or_eq_false_iff, Bool.and_eq_true, Bool.and_eq_false_imp, Bool.not_eq_true', Bool.not_eq_false'] at hc2
      refine AW.regS rfl ?_
      refine ARN.run1 (by simp (maxSteps := 1000000) only [go_sem, hmn, ha, hb, hcr] <;> exact rfl) ?_
      refine ARN.pcall (fun hp => c95 f a m true ha) rfl (by simp (maxSteps := 1000000) only [go_sem, hmn, ha, hb, hcr] <;> exact rfl) (by simp only [go_sem]) (by simp (maxSteps := 1000000) only [go_sem, hmn, ha, hb, hcr] <;> exact rfl) ?_
      refine ARN.run1 (by simp (maxSteps := 1000000) only [go_sem, hmn, ha, hb, hcr] <;> exact rfl) ?_
      refine ARN.fin (by first | (simp (disch := omega) only [go_sem, w64, wU, hmn, ha, hb, hcr] <;> exact rfl) | exact rfl) ?_
      refine retK.fin rfl (by simp (maxSteps := 1000000) only [go_sem, hmn, ha, hb, hcr] <;> exact rfl) (by simp (maxSteps := 1000000) only [go_sem, hmn, ha, hb, hcr] <;> exact rfl) (.of ?_)
      unfold stepF stepG; rw [if_pos hmn, if_pos hc2]; rfl
    · try simp only [decide_eq_true_eq, decide_eq_false_iff_not, Bool.or_eq_true, Bool.or_eq_false_iff, Bool.and_eq_true, Bool.and_eq_false_imp, Bool.not_eq_true', Bool.not_eq_false'] at hc2
      refine AW.regR rfl (by simp (maxSteps := 1000000) only [go_sem, hmn, ha, hb, hcr] <;> exact rfl) (by first | (simp (disch := omega) only [go_sem, w64, wU, hmn, ha, hb, hcr] <;> exact rfl) | exact rfl) ?_
      refine AW.cond (by simp (maxSteps := 1000000) only [go_sem, hmn, ha, hb, hcr] <;> exact rfl) (fun hc3 => ?_) (fun hc3 => ?_)
      · try simp only [decide_eq_true_eq, decide_eq_false_iff_not, Bool.or_eq_true, Bool.or_eq_false_iff, Bool.and_eq_true, Bool.and_eq_false_imp, Bool.not_eq_true', Bool.not_eq_false'] at hc3
        refine AW.regDS follows (by kernel_rfl) ?_
        refine ARE.run1 (by simp (maxSteps := 1000000) only [go_sem, hmn, ha, hb, hcr] <;> exact rfl) ?_
        refine ARE.pcall (fun hp => c95 f a (f.val.get b) (f.is.get b) ha) rfl (by simp (maxSteps := 1000000) only [go_sem, hmn, ha, hb, hcr] <;> exact rfl) (by simp only [go_sem]) (by simp (maxSteps := 1000000) only [go_sem, hmn, ha, hb, hcr] <;> exact rfl) ?_
        refine ARE.run1 (by simp (maxSteps := 1000000) only [go_sem, hmn, ha, hb, hcr] <;> exact rfl) ?_
        refine ARE.fin [0, 0, 2, 0, 8, 0, 56, 120, 0, 256, 0, 1792, 3840, 8191, 16383] _ (by kernel_rfl) (by simp (maxSteps := 1000000) only [go_sem, hmn, ha, hb, hcr] <;> exact rfl) (by kernel_rfl) (by first | (simp (disch := omega) only [go_sem, w64, wU, hmn, ha, hb, hcr] <;> exact rfl) | exact rfl) ?_
        refine retK.fin rfl (by simp (maxSteps := 1000000) only [go_sem, hmn, ha, hb, hcr] <;> exact rfl) (by simp (maxSteps := 1000000) only [go_sem, hmn, ha, hb, hcr] <;> exact rfl) (.of ?_)
        unfold stepF stepG; rw [if_pos hmn, if_neg hc2, if_pos hc3]; rfl
      · try simp only [decide_eq_true_eq, decide_eq_false_iff_not, Bool.or_eq_true, Bool.or_eq_false_iff, Bool.and_eq_true, Bool.and_eq_false_imp, Bool.not_eq_true', Bool.not_eq_false'] at hc3
        refine AW.regR rfl (by simp (maxSteps := 1000000) only [go_sem, hmn, ha, hb, hcr] <;> exact rfl) (by first | (simp (disch := omega) only [go_sem, w64, wU, hmn, ha, hb, hcr] <;> exact rfl) | exact rfl) ?_
        refine AW.cond (by simp (maxSteps := 1000000) only [go_sem, hmn, ha, hb, hcr] <;> exact rfl) (fun hc4 => ?_) (fun hc4 => ?_)
        · try simp only [decide_eq_true_eq, decide_eq_false_iff_not, Bool.or_eq_true, Bool.or_eq_false_iff, Bool.and_eq_true, Bool.and_eq_false_imp, Bool.not_eq_true', Bool.not_eq_false'] at hc4
          refine AW.regDS follows (by kernel_rfl) ?_
          refine ARE.run1 (by simp (maxSteps := 1000000) only [go_sem, hmn, ha, hb, hcr] <;> exact rfl) ?_
          refine ARE.pcall (fun hp => c97 m hm) rfl (by simp (maxSteps := 1000000) only [go_sem, hmn, ha, hb, hcr] <;> exact rfl) (by simp only [go_sem]) (by simp (maxSteps := 1000000) only [go_sem, hmn, ha, hb, hcr] <;> exact rfl) ?_
          refine ARE.run1 (by simp (maxSteps := 1000000) only [go_sem, hmn, ha, hb, hcr] <;> exact rfl) ?_
          refine ARE.pcall (fun hp => c96 (oprI m) 64 (f.val.get b) (f.val.get c)) rfl (by simp (maxSteps := 1000000) only [go_sem, hmn, ha, hb, hcr] <;> exact rfl) (by simp only [go_sem]) (by simp (maxSteps := 1000000) only [go_sem, hmn, ha, hb, hcr] <;> exact rfl) ?_
          refine ARE.run1 (by simp (maxSteps := 1000000) only [go_sem, hmn, ha, hb, hcr] <;> exact rfl) ?_
          refine ARE.fin [0, 1, 3, 0, 8, 0, 56, 120, 0, 256, 0, 1792, 3840, 8191, 16383, 32767, 32767, 65535, 262143] _ (by kernel_rfl) (by simp (maxSteps := 1000000) only [go_sem, hmn, ha, hb, hcr] <;> exact rfl) (by kernel_rfl) (by first | (simp (disch := omega) only [go_sem, w64, wU, hmn, ha, hb, hcr] <;> exact rfl) | exact rfl) ?_
          refine AW.regDS follows (by kernel_rfl) ?_
          refine ARE.run1 (by simp (maxSteps := 1000000) only [go_sem, hmn, ha, hb, hcr] <;> exact rfl) ?_
          refine ARE.pcall (fun hp => c95 f a (binW (oprI m) 64 (f.val.get b) (f.val.get c)) (decide (binE (oprI m) 64 = 0) && f.is.get b && f.is.get c) ha) rfl (by simp (maxSteps := 1000000) only [go_sem, hmn, ha, hb, hcr] <;> exact rfl) (by simp only [go_sem]) (by simp (maxSteps := 1000000) only [go_sem, hmn, ha, hb, hcr] <;> exact rfl) ?_
          refine ARE.run1 (by simp (maxSteps := 1000000) only [go_sem, hmn, ha, hb, hcr] <;> exact rfl) ?_
          refine ARE.fin [0, 0, 2, 0, 8, 24, 56, 120, 56, 504, 1016, 2040, 4088, 8184, 16376, 8184, 65528, 131064, 262136, 0, 1048575, 2097151] _ (by kernel_rfl) (by simp (maxSteps := 1000000) only [go_sem, hmn, ha, hb, hcr] <;> exact rfl) (by kernel_rfl) (by first | (simp (disch := omega) only [go_sem, w64, wU, hmn, ha, hb, hcr] <;> exact rfl) | exact rfl) ?_
          refine retK.fin rfl (by simp (maxSteps := 1000000) only [go_sem, hmn, ha, hb, hcr] <;> exact rfl) (by simp (maxSteps := 1000000) only [go_sem, hmn, ha, hb, hcr] <;> exact rfl) (.of ?_)
          unfold stepF stepG; rw [if_pos hmn, if_neg hc2, if_neg hc3, if_pos hc4]; rfl
        · try simp only [decide_eq_true_eq, decide_eq_false_iff_not, Bool.or_eq_true, Bool.or_eq_false_iff, Bool.and_eq_true, Bool.and_eq_false_imp, Bool.not_eq_true', Bool.not_eq_false'] at hc4
          refine AW.regR rfl (by simp (maxSteps := 1000000) only [go_sem, hmn, ha, hb, hcr] <;> exact rfl) (by first | (simp (disch := omega) only [go_sem, w64, wU, hmn, ha, hb, hcr] <;> exact rfl) | exact rfl) ?_
          refine AW.cond (by simp (maxSteps := 1000000) only [go_sem, hmn, ha, hb, hcr] <;> exact rfl) (fun hc5 => ?_) (fun hc5 => ?_)
          · try simp only [decide_eq_true_eq, decide_eq_false_iff_not, Bool.or_eq_true, Bool.or_eq_false_iff, Bool.and_eq_true, Bool.and_eq_false_imp, Bool.not_eq_true', Bool.not_eq_false'] at hc5
            refine AW.regDS follows (by kernel_rfl) ?_
            refine ARE.run1 (by simp (maxSteps := 1000000) only [go_sem, hmn, ha, hb, hcr] <;> exact rfl) ?_
            refine ARE.pcall (fun hp => c97 m hm) rfl (by simp (maxSteps := 1000000) only [go_sem, hmn, ha, hb, hcr] <;> exact rfl) (by simp only [go_sem]) (by simp (maxSteps := 1000000) only [go_sem, hmn, ha, hb, hcr] <;> exact rfl) ?_
            refine ARE.run1 (by simp (maxSteps := 1000000) only [go_sem, hmn, ha, hb, hcr] <;> exact rfl) ?_
            refine ARE.pcall (fun hp => c98 (oprI m) 64 (f.val.get b) (hv b hb)) rfl (by simp (maxSteps := 1000000) only [go_sem, hmn, ha, hb, hcr] <;> exact rfl) (by simp only [go_sem]) (by simp (maxSteps := 1000000) only [go_sem, hmn, ha, hb, hcr] <;> exact rfl) ?_
            refine ARE.run1 (by simp (maxSteps := 1000000) only [go_sem, hmn, ha, hb, hcr] <;> exact rfl) ?_
            refine ARE.fin [0, 1, 3, 0, 8, 0, 56, 120, 255, 511, 1023, 1023, 2047, 8191] _ (by kernel_rfl) (by simp (maxSteps := 1000000) only [go_sem, hmn, ha, hb, hcr] <;> exact rfl) (by kernel_rfl) (by first | (simp (disch := omega) only [go_sem, w64, wU, hmn, ha, hb, hcr] <;> exact rfl) | exact rfl) ?_
            refine AW.regDS follows (by kernel_rfl) ?_
            refine ARE.run1 (by simp (maxSteps := 1000000) only [go_sem, hmn, ha, hb, hcr] <;> exact rfl) ?_
            refine ARE.pcall (fun hp => c95 f a (unW (oprI m) 64 (f.val.get b)) (decide (unE (oprI m) 64 = 0) && f.is.get b) ha) rfl (by simp (maxSteps := 1000000) only [go_sem, hmn, ha, hb, hcr] <;> exact rfl) (by simp only [go_sem]) (by simp (maxSteps := 1000000) only [go_sem, hmn, ha, hb, hcr] <;> exact rfl) ?_
            refine ARE.run1 (by simp (maxSteps := 1000000) only [go_sem, hmn, ha, hb, hcr] <;> exact rfl) ?_
            refine ARE.fin [0, 0, 2, 0, 8, 24, 56, 120, 56, 504, 1016, 2040, 0, 8191, 16383] _ (by kernel_rfl) (by simp (maxSteps := 1000000) only [go_sem, hmn, ha, hb, hcr] <;> exact rfl) (by kernel_rfl) (by first | (simp (disch := omega) only [go_sem, w64, wU, hmn, ha, hb, hcr] <;> exact rfl) | exact rfl) ?_
            refine retK.fin rfl (by simp (maxSteps := 1000000) only [go_sem, hmn, ha, hb, hcr] <;> exact rfl) (by simp (maxSteps := 1000000) only [go_sem, hmn, ha, hb, hcr] <;> exact rfl) (.of ?_)
            unfold stepF stepG; rw [if_pos hmn, if_neg hc2, if_neg hc3, if_neg hc4, if_pos hc5]; rfl
          · try simp only [decide_eq_true_eq, decide_eq_false_iff_not, Bool.or_eq_true, Bool.or_eq_false_iff, Bool.and_eq_true, Bool.and_eq_false_imp, Bool.not_eq_true', Bool.not_eq_false'] at hc5
            refine AW.joinVh (α := (Bool)) (fun (b1 : (Bool)) => [(123, .pv (.bool b1))]) (fun (b1 : (Bool)) => ((b1 = true ↔ op = 7 ∨ op = 10 ∨ op = 9))) ?_ ?_
            · skip
              refine AW.regR rfl (by simp (maxSteps := 1000000) only [go_sem, hmn, ha, hb, hcr] <;> exact rfl) (by first | (simp (disch := omega) only [go_sem, w64, wU, hmn, ha, hb, hcr] <;> exact rfl) | exact rfl) ?_
              refine AW.cond (by simp (maxSteps := 1000000) only [go_sem, hmn, ha, hb, hcr] <;> exact rfl) (fun hc6 => ?_) (fun hc6 => ?_)
              · try simp only [decide_eq_true_eq, decide_eq_false_iff_not, Bool.or_eq_true, Bool.or_eq_false_iff, Bool.and_eq_true, Bool.and_eq_false_imp, Bool.not_eq_true', Bool.not_eq_false'] at hc6
                refine AW.skip ?_
                refine ⟨(decide (op = 7)), ?_, ?_⟩
                · exact by simp [hc6]
                · refine Wk.sub ?_
                  simp (maxSteps := 1000000) (disch := omega) only [go_sem, w64, wU, hmn, ha, hb, hcr]
              · try simp only [decide_eq_true_eq, decide_eq_false_iff_not, Bool.or_eq_true, Bool.or_eq_false_iff, Bool.and_eq_true, Bool.and_eq_false_imp, Bool.not_eq_true', Bool.not_eq_false'] at hc6
                refine AW.regR rfl (by simp (maxSteps := 1000000) only [go_sem, hmn, ha, hb, hcr] <;> exact rfl) (by first | (simp (disch := omega) only [go_sem, w64, wU, hmn, ha, hb, hcr] <;> exact rfl) | exact rfl) ?_
                refine AW.cond (by simp (maxSteps := 1000000) only [go_sem, hmn, ha, hb, hcr] <;> exact rfl) (fun hc7 => ?_) (fun hc7 => ?_)
                · try simp only [decide_eq_true_eq, decide_eq_false_iff_not, Bool.or_eq_true, Bool.or_eq_false_iff, Bool.and_eq_true, Bool.and_eq_false_imp, Bool.not_eq_true', Bool.not_eq_false'] at hc7
                  refine AW.skip ?_
                  refine ⟨(decide (op = 10)), ?_, ?_⟩
                  · exact by simp [hc6, hc7]
                  · refine Wk.sub ?_
                    simp (maxSteps := 1000000) (disch := omega) only [go_sem, w64, wU, hmn, ha, hb, hcr]
                · try simp only [decide_eq_true_eq, decide_eq_false_iff_not, Bool.or_eq_true, Bool.or_eq_false_iff, Bool.and_eq_true, Bool.and_eq_false_imp, Bool.not_eq_true', Bool.not_eq_false'] at hc7
                  refine AW.regR1 rfl (by simp (maxSteps := 1000000) only [go_sem, hmn, ha, hb, hcr] <;> exact rfl) (by first | (simp (disch := omega) only [go_sem, w64, wU, hmn, ha, hb, hcr] <;> exact rfl) | exact rfl) ?_
                  refine ⟨(decide (op = 9)), ?_, ?_⟩
                  · exact by simp [hc6, hc7]
                  · refine Wk.sub ?_
                    simp (maxSteps := 1000000) (disch := omega) only [go_sem, w64, wU, hmn, ha, hb, hcr]
            · rintro b1 hF _ ht
              simp only [updT, go_sem] at ht
              subst ht
              have q1 := hF
              refine AW.cond (by simp (maxSteps := 1000000) only [go_sem, hmn, ha, hb, hcr] <;> exact rfl) (fun hc8 => ?_) (fun hc8 => ?_)
              · try simp only [decide_eq_true_eq, decide_eq_false_iff_not, Bool.or_eq_true, Bool.or_eq_false_iff, Bool.and_eq_true, Bool.and_eq_false_imp, Bool.not_eq_true', Bool.not_eq_false'] at hc8
                have o8 : (op = 7 ∨ op = 10 ∨ op = 9) := q1.1 hc8
                refine AW.regS rfl ?_
                refine ARN.run1 (by simp (maxSteps := 1000000) only [go_sem, hmn, ha, hb, hcr, o8] <;> exact rfl) ?_
                refine ARN.pcall (fun hp => c95 f a 0 false ha) rfl (by simp (maxSteps := 1000000) only [go_sem, hmn, ha, hb, hcr, o8] <;> exact rfl) (by simp only [go_sem]) (by simp (maxSteps := 1000000) only [go_sem, hmn, ha, hb, hcr, o8] <;> exact rfl) ?_
                refine ARN.run1 (by simp (maxSteps := 1000000) only [go_sem, hmn, ha, hb, hcr, o8] <;> exact rfl) ?_
                refine ARN.fin (by first | (simp (disch := omega) only [go_sem, w64, wU, hmn, ha, hb, hcr, o8] <;> exact rfl) | exact rfl) ?_
                refine retK.fin rfl (by simp (maxSteps := 1000000) only [go_sem, hmn, ha, hb, hcr, o8] <;> exact rfl) (by simp (maxSteps := 1000000) only [go_sem, hmn, ha, hb, hcr, o8] <;> exact rfl) (.of ?_)
                unfold stepF stepG; rw [if_pos hmn, if_neg hc2, if_neg hc3, if_neg hc4, if_neg hc5, if_pos o8]; rfl
              · try simp only [decide_eq_true_eq, decide_eq_false_iff_not, Bool.or_eq_true, Bool.or_eq_false_iff, Bool.and_eq_true, Bool.and_eq_false_imp, Bool.not_eq_true', Bool.not_eq_false'] at hc8
                have n8 : ¬ (op = 7 ∨ op = 10 ∨ op = 9) := fun h => by have := q1.2 h; simp_all
                refine AW.skip ?_
                show AW _ _ _ _ _
                refine AW.regR rfl (by simp (maxSteps := 1000000) only [go_sem, hmn, ha, hb, hcr, n8] <;> exact rfl) (by first | (simp (disch := omega) only [go_sem, w64, wU, hmn, ha, hb, hcr, n8] <;> exact rfl) | exact rfl) ?_
                refine retK.fin rfl (by simp (maxSteps := 1000000) only [go_sem, hmn, ha, hb, hcr, n8] <;> exact rfl) (by simp (maxSteps := 1000000) only [go_sem, hmn, ha, hb, hcr, n8] <;> exact rfl) (.of ?_)
                unfold stepF stepG; rw [if_pos hmn, if_neg hc2, if_neg hc3, if_neg hc4, if_neg hc5, if_neg n8]; unfold fR; rw [hmn.1]
theorem mn_no2 {f : Fa} {op a b c : Int} (h : ((((!f.met || decide (op < 1)) || decide (15 < op)) || !decide (InR8 a)) || !decide (InR8 b) || !decide (InR8 c)) = false) : f.met = true ∧ namS op a b c := by
  simp only [Bool.or_eq_false_iff, Bool.not_eq_false', decide_eq_false_iff_not, decide_eq_true_eq] at h
  obtain ⟨⟨⟨⟨⟨h1, h2⟩, h3⟩, h4⟩, h5⟩, h6⟩ := h
  exact ⟨h1, by omega, by omega, h4, h5, h6⟩
theorem mn_yes2 {f : Fa} {op a b c : Int} (h : ((((!f.met || decide (op < 1)) || decide (15 < op)) || !decide (InR8 a)) || !decide (InR8 b) || !decide (InR8 c)) = true) : ¬ (f.met = true ∧ namS op a b c) := by
  intro q
  obtain ⟨q1, q2, q3, q4, q5, q6⟩ := q
  simp only [Bool.or_eq_true, Bool.not_eq_true', decide_eq_false_iff_not, decide_eq_true_eq] at h
  rcases h with ((((h | h) | h) | h) | h) | h
  · rw [q1] at h; cases h
  · omega
  · omega
  · exact h q4
  · exact h q5
  · exact h q6
theorem c70 (op a b c m : Int) (f : Fa) (hm : W64 m) (hv : ∀ j, InR8 j → W64 (f.val.get j)) : PC Try.prog 70 [.agg [.int .i64 op, .int .i64 a, .int .i64 b, .int .i64 c, .int .u64 m], .agg (fR f)] (.agg (fR (stepF op a b c m f))) := by
  refine PC.start 147 Try.call70 Try.func70 rfl Try.ntmps70 Try.results70 (by simp only [go_sem]; exact rfl) fun z hz => ?_
  refine AW.regR rfl (by simp (maxSteps := 1000000) only [go_sem] <;> exact rfl) (by first | (simp (disch := omega) only [go_sem, w64, wU] <;> exact rfl) | exact rfl) ?_
  refine AW.seq ?_
  refine AW.regS rfl ?_
  refine ARN.run1 (by simp (maxSteps := 1000000) only [go_sem] <;> exact rfl) ?_
  refine ARN.pcall (fun hp => c100 a) rfl (by simp (maxSteps := 1000000) only [go_sem] <;> exact rfl) (by simp only [go_sem]) (by simp (maxSteps := 1000000) only [go_sem] <;> exact rfl) ?_
  refine ARN.run1 (by simp (maxSteps := 1000000) only [go_sem] <;> exact rfl) ?_
  refine ARN.pcall (fun hp => c100 b) rfl (by simp (maxSteps := 1000000) only [go_sem] <;> exact rfl) (by simp only [go_sem]) (by simp (maxSteps := 1000000) only [go_sem] <;> exact rfl) ?_
  refine ARN.run1 (by simp (maxSteps := 1000000) only [go_sem] <;> exact rfl) ?_
  refine ARN.pcall (fun hp => c100 c) rfl (by simp (maxSteps := 1000000) only [go_sem] <;> exact rfl) (by simp only [go_sem]) (by simp (maxSteps := 1000000) only [go_sem] <;> exact rfl) ?_
  refine ARN.run1 (by simp (maxSteps := 1000000) only [go_sem] <;> exact rfl) ?_
  refine ARN.fin (by first | (simp (disch := omega) only [go_sem, w64, wU] <;> exact rfl) | exact rfl) ?_
  refine AW.cond (by simp (maxSteps := 1000000) only [go_sem] <;> exact rfl) (fun hc1 => ?_) (fun hc1 => ?_)
  · skip
    refine AW.regR rfl (by simp (maxSteps := 1000000) only [go_sem] <;> exact rfl) (by first | (simp (disch := omega) only [go_sem, w64, wU] <;> exact rfl) | exact rfl) ?_
    refine retK.fin rfl (by simp (maxSteps := 1000000) only [go_sem] <;> exact rfl) (by simp (maxSteps := 1000000) only [go_sem] <;> exact rfl) (.of ?_)
    unfold stepF; rw [if_neg (mn_yes2 hc1)]; rfl
  · skip
    have hmn : f.met = true ∧ namS op a b c := mn_no2 hc1
    have ha : InR8 a := hmn.2.2.2.1
    have hb : InR8 b := hmn.2.2.2.2.1
    have hcr : InR8 c := hmn.2.2.2.2.2
    refine AW.skip ?_
    show AW _ _ _ _ _
    refine AW.regR rfl (by simp (maxSteps := 1000000) only [go_sem, hmn, ha, hb, hcr] <;> exact rfl) (by first | (simp (disch := omega) only [go_sem, w64, wU, hmn, ha, hb, hcr] <;> exact rfl) | exact rfl) ?_
    refine AW.joinVh (α := (Int)) (fun (o : (Int)) => [(5, .pv (.int .i64 o))]) (fun (o : (Int)) => (o = opr2 m)) ?_ ?_
    · skip
      refine AW.regR rfl (by simp (maxSteps := 1000000) only [go_sem, hmn, ha, hb, hcr] <;> exact rfl) (by first | (simp (disch := omega) only [go_sem, w64, wU, hmn, ha, hb, hcr] <;> exact rfl) | exact rfl) ?_
      refine AW.cond (by simp (maxSteps := 1000000) only [go_sem, hmn, ha, hb, hcr] <;> exact rfl) (fun hc2 => ?_) (fun hc2 => ?_)
      · try simp only [decide_eq_true_eq, decide_eq_false_iff_not, Bool.or_eq_true, Bool.or_eq_false_iff, Bool.and_eq_true, Bool.and_eq_false_imp, Bool.not_eq_true', Bool.not_eq_false'] at hc2
        have hwm : IntKind.i64.wrap m = m := w64 (by have := hm.1; omega) (by omega)
        refine AW.regR1 rfl (by simp (maxSteps := 1000000) only [go_sem, hmn, ha, hb, hcr, hwm] <;> exact rfl) (by first | (simp (disch := omega) only [go_sem, w64, wU, hmn, ha, hb, hcr, hwm] <;> exact rfl) | exact rfl) ?_
        refine ⟨m, ?_, ?_⟩
        · exact by unfold opr2; rw [if_pos hc2]
        · refine Wk.sub ?_
          simp (maxSteps := 1000000) (disch := omega) only [go_sem, w64, wU, hmn, ha, hb, hcr, hwm]
      · try simp only [decide_eq_true_eq, decide_eq_false_iff_not, Bool.or_eq_true, Bool.or_eq_false_iff, Bool.and_eq_true, Bool.and_eq_false_imp, Bool.not_eq_true', Bool.not_eq_false'] at hc2
        refine AW.skip ?_
        refine ⟨0, ?_, ?_⟩
        · exact by unfold opr2; rw [if_neg hc2]
        · refine Wk.sub ?_
          simp (maxSteps := 1000000) (disch := omega) only [go_sem, w64, wU, hmn, ha, hb, hcr]
    · rintro o hF _ ht
      simp only [updT, go_sem] at ht
      subst ht
      have qo := hF
      refine AW.seq ?_
      refine AW.regR rfl (by simp (maxSteps := 1000000) only [go_sem, hmn, ha, hb, hcr] <;> exact rfl) (by first | (simp (disch := omega) only [go_sem, w64, wU, hmn, ha, hb, hcr] <;> exact rfl) | exact rfl) ?_
      refine AW.block ?_
      refine AW.regR rfl (by simp (maxSteps := 1000000) only [go_sem, hmn, ha, hb, hcr] <;> exact rfl) (by first | (simp (disch := omega) only [go_sem, w64, wU, hmn, ha, hb, hcr] <;> exact rfl) | exact rfl) ?_
      refine AW.cond (by simp (maxSteps := 1000000) only [go_sem, hmn, ha, hb, hcr] <;> exact rfl) (fun hc3 => ?_) (fun hc3 => ?_)
      · try simp only [decide_eq_true_eq, decide_eq_false_iff_not, Bool.or_eq_true, Bool.or_eq_false_iff, Bool.and_eq_true, Bool.and_eq_false_imp, Bool.not_eq_true', Bool.not_eq_false'] at hc3
        refine AW.regS rfl ?_
        refine ARN.run1 (by simp (maxSteps := 1000000) only [go_sem, hmn, ha, hb, hcr] <;> exact rfl) ?_
        refine ARN.pcall (fun hp => c99 f a m true ha) rfl (by simp (maxSteps := 1000000) only [go_sem, hmn, ha, hb, hcr] <;> exact rfl) (by simp only [go_sem]) (by simp (maxSteps := 1000000) only [go_sem, hmn, ha, hb, hcr] <;> exact rfl) ?_
        refine ARN.run1 (by simp (maxSteps := 1000000) only [go_sem, hmn, ha, hb, hcr] <;> exact rfl) ?_
        refine ARN.fin (by first | (simp (disch := omega) only [go_sem, w64, wU, hmn, ha, hb, hcr] <;> exact rfl) | exact rfl) ?_
        refine retK.fin rfl (by simp (maxSteps := 1000000) only [go_sem, hmn, ha, hb, hcr] <;> exact rfl) (by simp (maxSteps := 1000000) only [go_sem, hmn, ha, hb, hcr] <;> exact rfl) (.of ?_)
        unfold stepF stepG; rw [if_pos hmn, if_pos hc3]; rfl
      · try simp only [decide_eq_true_eq, decide_eq_false_iff_not, Bool.or_eq_true, Bool.or_eq_false_iff, Bool.and_eq_true, Bool.and_eq_false_imp, Bool.not_eq_true', Bool.not_eq_false'] at hc3
        refine AW.regR rfl (by simp (maxSteps := 1000000) only [go_sem, hmn, ha, hb, hcr] <;> exact rfl) (by first | (simp (disch := omega) only [go_sem, w64, wU, hmn, ha, hb, hcr] <;> exact rfl) | exact rfl) ?_
        refine AW.cond (by simp (maxSteps := 1000000) only [go_sem, hmn, ha, hb, hcr] <;> exact rfl) (fun hc4 => ?_) (fun hc4 => ?_)
        · try simp only [decide_eq_true_eq, decide_eq_false_iff_not, Bool.or_eq_true, Bool.or_eq_false_iff, Bool.and_eq_true, Bool.and_eq_false_imp, Bool.not_eq_true', Bool.not_eq_false'] at hc4
          refine AW.regDS follows (by kernel_rfl) ?_
          refine ARE.run1 (by simp (maxSteps := 1000000) only [go_sem, hmn, ha, hb, hcr] <;> exact rfl) ?_
          refine ARE.pcall (fun hp => c99 f a (f.val.get b) (f.is.get b) ha) rfl (by simp (maxSteps := 1000000) only [go_sem, hmn, ha, hb, hcr] <;> exact rfl) (by simp only [go_sem]) (by simp (maxSteps := 1000000) only [go_sem, hmn, ha, hb, hcr] <;> exact rfl) ?_
          refine ARE.run1 (by simp (maxSteps := 1000000) only [go_sem, hmn, ha, hb, hcr] <;> exact rfl) ?_
          refine ARE.fin [0, 0, 2, 0, 8, 0, 56, 120, 0, 256, 0, 1792, 3840, 8191, 16383] _ (by kernel_rfl) (by simp (maxSteps := 1000000) only [go_sem, hmn, ha, hb, hcr] <;> exact rfl) (by kernel_rfl) (by first | (simp (disch := omega) only [go_sem, w64, wU, hmn, ha, hb, hcr] <;> exact rfl) | exact rfl) ?_
          refine retK.fin rfl (by simp (maxSteps := 1000000) only [go_sem, hmn, ha, hb, hcr] <;> exact rfl) (by simp (maxSteps := 1000000) only [go_sem, hmn, ha, hb, hcr] <;> exact rfl) (.of ?_)
          unfold stepF stepG; rw [if_pos hmn, if_neg hc3, if_pos hc4]; rfl
        · try simp only [decide_eq_true_eq, decide_eq_false_iff_not, Bool.or_eq_true, Bool.or_eq_false_iff, Bool.and_eq_true, Bool.and_eq_false_imp, Bool.not_eq_true', Bool.not_eq_false'] at hc4
          refine AW.regR rfl (by simp (maxSteps := 1000000) only [go_sem, hmn, ha, hb, hcr] <;> exact rfl) (by first | (simp (disch := omega) only [go_sem, w64, wU, hmn, ha, hb, hcr] <;> exact rfl) | exact rfl) ?_
          refine AW.cond (by simp (maxSteps := 1000000) only [go_sem, hmn, ha, hb, hcr] <;> exact rfl) (fun hc5 => ?_) (fun hc5 => ?_)
          · try simp only [decide_eq_true_eq, decide_eq_false_iff_not, Bool.or_eq_true, Bool.or_eq_false_iff, Bool.and_eq_true, Bool.and_eq_false_imp, Bool.not_eq_true', Bool.not_eq_false'] at hc5
            refine AW.regDS follows (by kernel_rfl) ?_
            refine ARE.run1 (by simp (maxSteps := 1000000) only [go_sem, hmn, ha, hb, hcr] <;> exact rfl) ?_
            refine ARE.pcall (fun hp => c57 o 64 (f.val.get b) (f.val.get c)) rfl (by simp (maxSteps := 1000000) only [go_sem, hmn, ha, hb, hcr] <;> exact rfl) (by simp only [go_sem]) (by simp (maxSteps := 1000000) only [go_sem, hmn, ha, hb, hcr] <;> exact rfl) ?_
            refine ARE.run1 (by simp (maxSteps := 1000000) only [go_sem, hmn, ha, hb, hcr] <;> exact rfl) ?_
            refine ARE.fin [0, 0, 2, 0, 14, 30, 0, 64, 0, 448, 960, 2047, 4095, 8191, 8191, 16383, 65535] _ (by kernel_rfl) (by simp (maxSteps := 1000000) only [go_sem, hmn, ha, hb, hcr] <;> exact rfl) (by kernel_rfl) (by first | (simp (disch := omega) only [go_sem, w64, wU, hmn, ha, hb, hcr] <;> exact rfl) | exact rfl) ?_
            refine AW.regDS follows (by kernel_rfl) ?_
            refine ARE.run1 (by simp (maxSteps := 1000000) only [go_sem, hmn, ha, hb, hcr] <;> exact rfl) ?_
            refine ARE.pcall (fun hp => c99 f a (binW o 64 (f.val.get b) (f.val.get c)) (f.is.get b && f.is.get c && decide (binE o 64 = 0)) ha) rfl (by simp (maxSteps := 1000000) only [go_sem, hmn, ha, hb, hcr] <;> exact rfl) (by simp only [go_sem]) (by simp (maxSteps := 1000000) only [go_sem, hmn, ha, hb, hcr] <;> exact rfl) ?_
            refine ARE.run1 (by simp (maxSteps := 1000000) only [go_sem, hmn, ha, hb, hcr] <;> exact rfl) ?_
            refine ARE.fin [0, 0, 2, 0, 8, 0, 56, 120, 248, 504, 1016, 504, 4088, 8184, 16376, 32760, 65528, 131064, 262136, 0, 1048575, 2097151] _ (by kernel_rfl) (by simp (maxSteps := 1000000) only [go_sem, hmn, ha, hb, hcr] <;> exact rfl) (by kernel_rfl) (by first | (simp (disch := omega) only [go_sem, w64, wU, hmn, ha, hb, hcr] <;> exact rfl) | exact rfl) ?_
            refine retK.fin rfl (by simp (maxSteps := 1000000) only [go_sem, hmn, ha, hb, hcr] <;> exact rfl) (by simp (maxSteps := 1000000) only [go_sem, hmn, ha, hb, hcr] <;> exact rfl) (.of ?_)
            unfold stepF stepG; rw [if_pos hmn, if_neg hc3, if_neg hc4, if_pos hc5]
            have hob := opr_bin (m := m) hm.1
            rw [← qo] at hob
            refine (congrArg (fun q => PV.agg (fR q)) (setF_eq (f := f) (a := a) (y := binW (oprI m) 64 (f.val.get b) (f.val.get c)) (d := decide (binE (oprI m) 64 = 0) && f.is.get b && f.is.get c) ?_ fun hd => ?_))
            · have hd2 : decide (binE o 64 = 0) = decide (binE (oprI m) 64 = 0) := (by rw [Bool.eq_iff_iff, decide_eq_true_eq, decide_eq_true_eq]; exact hob.1)
              rw [hd2]; cases f.is.get b <;> cases f.is.get c <;> simp
            · simp only [Bool.and_eq_true, decide_eq_true_eq] at hd; rw [hob.2 hd.1.1]
          · try simp only [decide_eq_true_eq, decide_eq_false_iff_not, Bool.or_eq_true, Bool.or_eq_false_iff, Bool.and_eq_true, Bool.and_eq_false_imp, Bool.not_eq_true', Bool.not_eq_false'] at hc5
            refine AW.regR rfl (by simp (maxSteps := 1000000) only [go_sem, hmn, ha, hb, hcr] <;> exact rfl) (by first | (simp (disch := omega) only [go_sem, w64, wU, hmn, ha, hb, hcr] <;> exact rfl) | exact rfl) ?_
            refine AW.cond (by simp (maxSteps := 1000000) only [go_sem, hmn, ha, hb, hcr] <;> exact rfl) (fun hc6 => ?_) (fun hc6 => ?_)
            · try simp only [decide_eq_true_eq, decide_eq_false_iff_not, Bool.or_eq_true, Bool.or_eq_false_iff, Bool.and_eq_true, Bool.and_eq_false_imp, Bool.not_eq_true', Bool.not_eq_false'] at hc6
              refine AW.regS rfl ?_
              refine ARN.run1 (by simp (maxSteps := 1000000) only [go_sem, hmn, ha, hb, hcr] <;> exact rfl) ?_
              refine ARN.pcall (fun hp => c58 o 64 (f.val.get b) (hv b hb)) rfl (by simp (maxSteps := 1000000) only [go_sem, hmn, ha, hb, hcr] <;> exact rfl) (by simp only [go_sem]) (by simp (maxSteps := 1000000) only [go_sem, hmn, ha, hb, hcr] <;> exact rfl) ?_
              refine ARN.run1 (by simp (maxSteps := 1000000) only [go_sem, hmn, ha, hb, hcr] <;> exact rfl) ?_
              refine ARN.fin (by first | (simp (disch := omega) only [go_sem, w64, wU, hmn, ha, hb, hcr] <;> exact rfl) | exact rfl) ?_
              refine AW.regDS follows (by kernel_rfl) ?_
              refine ARE.run1 (by simp (maxSteps := 1000000) only [go_sem, hmn, ha, hb, hcr] <;> exact rfl) ?_
              refine ARE.pcall (fun hp => c99 f a (unW o 64 (f.val.get b)) (f.is.get b && decide (unE o 64 = 0)) ha) rfl (by simp (maxSteps := 1000000) only [go_sem, hmn, ha, hb, hcr] <;> exact rfl) (by simp only [go_sem]) (by simp (maxSteps := 1000000) only [go_sem, hmn, ha, hb, hcr] <;> exact rfl) ?_
              refine ARE.run1 (by simp (maxSteps := 1000000) only [go_sem, hmn, ha, hb, hcr] <;> exact rfl) ?_
              refine ARE.fin [0, 0, 2, 0, 8, 0, 56, 120, 248, 504, 1016, 2040, 0, 8191, 16383] _ (by kernel_rfl) (by simp (maxSteps := 1000000) only [go_sem, hmn, ha, hb, hcr] <;> exact rfl) (by kernel_rfl) (by first | (simp (disch := omega) only [go_sem, w64, wU, hmn, ha, hb, hcr] <;> exact rfl) | exact rfl) ?_
              refine retK.fin rfl (by simp (maxSteps := 1000000) only [go_sem, hmn, ha, hb, hcr] <;> exact rfl) (by simp (maxSteps := 1000000) only [go_sem, hmn, ha, hb, hcr] <;> exact rfl) (.of ?_)
              unfold stepF stepG; rw [if_pos hmn, if_neg hc3, if_neg hc4, if_neg hc5, if_pos hc6]
              have hob := opr_un (m := m) hm.1
              rw [← qo] at hob
              refine (congrArg (fun q => PV.agg (fR q)) (setF_eq (f := f) (a := a) (y := unW (oprI m) 64 (f.val.get b)) (d := decide (unE (oprI m) 64 = 0) && f.is.get b) ?_ fun hd => ?_))
              · have hd2 : decide (unE o 64 = 0) = decide (unE (oprI m) 64 = 0) := (by rw [Bool.eq_iff_iff, decide_eq_true_eq, decide_eq_true_eq]; exact hob.1)
                rw [hd2]; cases f.is.get b <;> simp
              · simp only [Bool.and_eq_true, decide_eq_true_eq] at hd; rw [hob.2 hd.1]
            · try simp only [decide_eq_true_eq, decide_eq_false_iff_not, Bool.or_eq_true, Bool.or_eq_false_iff, Bool.and_eq_true, Bool.and_eq_false_imp, Bool.not_eq_true', Bool.not_eq_false'] at hc6
              refine AW.joinVh (α := (Bool)) (fun (b1 : (Bool)) => [(138, .pv (.bool b1))]) (fun (b1 : (Bool)) => ((b1 = true ↔ op = 7 ∨ op = 10 ∨ op = 9))) ?_ ?_
              · skip
                refine AW.regR rfl (by simp (maxSteps := 1000000) only [go_sem, hmn, ha, hb, hcr] <;> exact rfl) (by first | (simp (disch := omega) only [go_sem, w64, wU, hmn, ha, hb, hcr] <;> exact rfl) | exact rfl) ?_
                refine AW.cond (by simp (maxSteps := 1000000) only [go_sem, hmn, ha, hb, hcr] <;> exact rfl) (fun hc7 => ?_) (fun hc7 => ?_)
                · try simp only [decide_eq_true_eq, decide_eq_false_iff_not, Bool.or_eq_true, Bool.or_eq_false_iff, Bool.and_eq_true, Bool.and_eq_false_imp, Bool.not_eq_true', Bool.not_eq_false'] at hc7
                  refine AW.skip ?_
                  refine ⟨(decide (op = 7)), ?_, ?_⟩
                  · exact by simp [hc7]
                  · refine Wk.sub ?_
                    simp (maxSteps := 1000000) (disch := omega) only [go_sem, w64, wU, hmn, ha, hb, hcr]
                · try simp only [decide_eq_true_eq, decide_eq_false_iff_not, Bool.or_eq_true, Bool.or_eq_false_iff, Bool.and_eq_true, Bool.and_eq_false_imp, Bool.not_eq_true', Bool.not_eq_false'] at hc7
                  refine AW.regR rfl (by simp (maxSteps := 1000000) only [go_sem, hmn, ha, hb, hcr] <;> exact rfl) (by first | (simp (disch := omega) only [go_sem, w64, wU, hmn, ha, hb, hcr] <;> exact rfl) | exact rfl) ?_
                  refine AW.cond (by simp (maxSteps := 1000000) only [go_sem, hmn, ha, hb, hcr] <;> exact rfl) (fun hc8 => ?_) (fun hc8 => ?_)
                  · try simp only [decide_eq_true_eq, decide_eq_false_iff_not, Bool.or_eq_true, Bool.or_eq_false_iff, Bool.and_eq_true, Bool.and_eq_false_imp, Bool.not_eq_true', Bool.not_eq_false'] at hc8
                    refine AW.skip ?_
                    refine ⟨(decide (op = 10)), ?_, ?_⟩
                    · exact by simp [hc7, hc8]
                    · refine Wk.sub ?_
                      simp (maxSteps := 1000000) (disch := omega) only [go_sem, w64, wU, hmn, ha, hb, hcr]
                  · try simp only [decide_eq_true_eq, decide_eq_false_iff_not, Bool.or_eq_true, Bool.or_eq_false_iff, Bool.and_eq_true, Bool.and_eq_false_imp, Bool.not_eq_true', Bool.not_eq_false'] at hc8
                    refine AW.regR1 rfl (by simp (maxSteps := 1000000) only [go_sem, hmn, ha, hb, hcr] <;> exact rfl) (by first | (simp (disch := omega) only [go_sem, w64, wU, hmn, ha, hb, hcr] <;> exact rfl) | exact rfl) ?_
                    refine ⟨(decide (op = 9)), ?_, ?_⟩
                    · exact by simp [hc7, hc8]
                    · refine Wk.sub ?_
                      simp (maxSteps := 1000000) (disch := omega) only [go_sem, w64, wU, hmn, ha, hb, hcr]
              · rintro b1 hF _ ht
                simp only [updT, go_sem] at ht
                subst ht
                have q1 := hF
                refine AW.cond (by simp (maxSteps := 1000000) only [go_sem, hmn, ha, hb, hcr] <;> exact rfl) (fun hc9 => ?_) (fun hc9 => ?_)
                · try simp only [decide_eq_true_eq, decide_eq_false_iff_not, Bool.or_eq_true, Bool.or_eq_false_iff, Bool.and_eq_true, Bool.and_eq_false_imp, Bool.not_eq_true', Bool.not_eq_false'] at hc9
                  have o8 : (op = 7 ∨ op = 10 ∨ op = 9) := q1.1 hc9
                  refine AW.regS rfl ?_
                  refine ARN.run1 (by simp (maxSteps := 1000000) only [go_sem, hmn, ha, hb, hcr, o8] <;> exact rfl) ?_
                  refine ARN.pcall (fun hp => c99 f a 0 false ha) rfl (by simp (maxSteps := 1000000) only [go_sem, hmn, ha, hb, hcr, o8] <;> exact rfl) (by simp only [go_sem]) (by simp (maxSteps := 1000000) only [go_sem, hmn, ha, hb, hcr, o8] <;> exact rfl) ?_
                  refine ARN.run1 (by simp (maxSteps := 1000000) only [go_sem, hmn, ha, hb, hcr, o8] <;> exact rfl) ?_
                  refine ARN.fin (by first | (simp (disch := omega) only [go_sem, w64, wU, hmn, ha, hb, hcr, o8] <;> exact rfl) | exact rfl) ?_
                  refine retK.fin rfl (by simp (maxSteps := 1000000) only [go_sem, hmn, ha, hb, hcr, o8] <;> exact rfl) (by simp (maxSteps := 1000000) only [go_sem, hmn, ha, hb, hcr, o8] <;> exact rfl) (.of ?_)
                  unfold stepF stepG; rw [if_pos hmn, if_neg hc3, if_neg hc4, if_neg hc5, if_neg hc6, if_pos o8]; rfl
                · try simp only [decide_eq_true_eq, decide_eq_false_iff_not, Bool.or_eq_true, Bool.or_eq_false_iff, Bool.and_eq_true, Bool.and_eq_false_imp, Bool.not_eq_true', Bool.not_eq_false'] at hc9
                  have n8 : ¬ (op = 7 ∨ op = 10 ∨ op = 9) := fun h => by have := q1.2 h; simp_all
                  refine AW.skip ?_
                  show AW _ _ _ _ _
                  refine AW.regR rfl (by simp (maxSteps := 1000000) only [go_sem, hmn, ha, hb, hcr, n8] <;> exact rfl) (by first | (simp (disch := omega) only [go_sem, w64, wU, hmn, ha, hb, hcr, n8] <;> exact rfl) | exact rfl) ?_
                  refine retK.fin rfl (by simp (maxSteps := 1000000) only [go_sem, hmn, ha, hb, hcr, n8] <;> exact rfl) (by simp (maxSteps := 1000000) only [go_sem, hmn, ha, hb, hcr, n8] <;> exact rfl) (.of ?_)
                  unfold stepF stepG; rw [if_pos hmn, if_neg hc3, if_neg hc4, if_neg hc5, if_neg hc6, if_neg n8]; unfold fR; rw [hmn.1]
end Go.Ab.Try
