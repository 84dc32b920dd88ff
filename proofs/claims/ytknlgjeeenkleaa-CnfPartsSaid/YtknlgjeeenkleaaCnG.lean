/- Clauses counted: the reference's ways. -/
import Derived.Test.YtknlgjeeenkleaaCnF
namespace Go.Ab.Try
open Go.Proofs Go.Ab
set_option linter.unusedVariables false
set_option linter.unusedSimpArgs false
set_option maxRecDepth 100000
theorem c92 (a b : List Bool) (p q : Bool) (ha : (a.length : Int) ≤ 9223372036854775807) (hb : (b.length : Int) ≤ 9223372036854775807) : PC Try.prog 92 [bools p a, bools q b] (.bool (decide (a = b))) := by
  refine PC.start 26 Try.call92 Try.func92 rfl Try.ntmps92 Try.results92 (by simp only [go_sem]; exact rfl) fun z hz => ?_
  refine AW.regR rfl (by simp (maxSteps := 1000000) only [go_sem, bools, List.length_map] <;> exact rfl) (by simp (disch := omega) only [go_sem, w64, wU, bools, List.length_map] <;> exact rfl) ?_
  refine AW.seq ?_
  refine AW.regR rfl (by simp (maxSteps := 1000000) only [go_sem, bools, List.length_map] <;> exact rfl) (by simp (disch := omega) only [go_sem, w64, wU, bools, List.length_map] <;> exact rfl) ?_
  refine AW.cond (by simp (maxSteps := 1000000) only [go_sem, bools, List.length_map] <;> exact rfl) (fun hc1 => ?_) (fun hc1 => ?_)
  · try simp only [decide_eq_true_eq, decide_eq_false_iff_not, Bool.or_eq_true, Bool.or_eq_false_iff, Bool.and_eq_true, Bool.and_eq_false_imp, Bool.not_eq_true', Bool.not_eq_false'] at hc1
    refine AW.regR rfl (by simp (maxSteps := 1000000) only [go_sem, bools, List.length_map] <;> exact rfl) (by simp (disch := omega) only [go_sem, w64, wU, bools, List.length_map] <;> exact rfl) ?_
    refine retK.fin rfl (by simp (maxSteps := 1000000) only [go_sem, bools, List.length_map] <;> exact rfl) (by simp (maxSteps := 1000000) only [go_sem, bools, List.length_map] <;> exact rfl) (.of ?_)
    have : a ≠ b := fun e => by subst e; omega
    simp [this]
  · try simp only [decide_eq_true_eq, decide_eq_false_iff_not, Bool.or_eq_true, Bool.or_eq_false_iff, Bool.and_eq_true, Bool.and_eq_false_imp, Bool.not_eq_true', Bool.not_eq_false'] at hc1
    refine AW.skip ?_
    show AW _ _ _ _ _
    refine AW.seq ?_
    refine AW.regR rfl (by simp (maxSteps := 1000000) only [go_sem, bools, List.length_map] <;> exact rfl) (by simp (disch := omega) only [go_sem, w64, wU, bools, List.length_map] <;> exact rfl) ?_
    refine AW.block ?_
    refine AW.loopVh (α := (Int)) (fun (i : (Int)) => [(5, .pv (.int .i64 i))]) (fun (i : (Int)) => (0 ≤ i) ∧ (i ≤ (a.length : Int)) ∧ (∀ j : Nat, (j : Int) < i → a.getD j false = b.getD j false)) (fun (i : (Int)) => ((a.length : Int) - i).toNat) 0 ?_ ?_ ?_
    · exact ⟨by omega, by omega, fun j hj => by omega⟩
    · refine Wk.sub ?_
      simp (maxSteps := 1000000) (disch := omega) only [go_sem, w64, wU, bools, List.length_map]
    · rintro i hF _ ht
      simp only [updT, go_sem] at ht
      subst ht
      obtain ⟨h1, h2, h3⟩ := hF
      refine AW.seq ?_
      refine AW.regR rfl (by simp (maxSteps := 1000000) only [go_sem, bools, List.length_map] <;> exact rfl) (by simp (disch := omega) only [go_sem, w64, wU, bools, List.length_map] <;> exact rfl) ?_
      refine AW.cond (by simp (maxSteps := 1000000) only [go_sem, bools, List.length_map] <;> exact rfl) (fun hc2 => ?_) (fun hc2 => ?_)
      · try simp only [decide_eq_true_eq, decide_eq_false_iff_not, Bool.or_eq_true, Bool.or_eq_false_iff, Bool.and_eq_true, Bool.and_eq_false_imp, Bool.not_eq_true', Bool.not_eq_false'] at hc2
        have hr : (a.map fun x => [PV.bool x])[i.toNat]? = some [.bool (a.getD i.toNat false)] := bools_at ⟨h1, hc2⟩
        have hr2 : (b.map fun x => [PV.bool x])[i.toNat]? = some [.bool (b.getD i.toNat false)] := bools_at ⟨h1, by omega⟩
        have g1 : 0 ≤ i := h1
        have g2 : i < (a.length : Int) := hc2
        have g3 : i < (b.length : Int) := by omega
        refine AW.skip ?_
        show AW _ _ _ _ _
        refine AW.seq ?_
        refine AW.block ?_
        refine AW.regDS follows (by kernel_rfl) ?_
        refine ARE.run1 (by simp (maxSteps := 1000000) only [go_sem, bools, List.length_map, hr, hr2, g1, g2, g3] <;> exact rfl) ?_
        refine ARE.fin [0, 0, 3, 7, 0, 0, 48, 112, 255] _ (by kernel_rfl) (by simp (maxSteps := 1000000) only [go_sem, bools, List.length_map, hr, hr2, g1, g2, g3] <;> exact rfl) (by kernel_rfl) (by simp (disch := omega) only [go_sem, w64, wU, bools, List.length_map, hr, hr2, g1, g2, g3] <;> exact rfl) ?_
        refine AW.cond (by simp (maxSteps := 1000000) only [go_sem, bools, List.length_map, hr, hr2, g1, g2, g3] <;> exact rfl) (fun hc3 => ?_) (fun hc3 => ?_)
        · try simp only [decide_eq_true_eq, decide_eq_false_iff_not, Bool.or_eq_true, Bool.or_eq_false_iff, Bool.and_eq_true, Bool.and_eq_false_imp, Bool.not_eq_true', Bool.not_eq_false'] at hc3
          refine AW.regR rfl (by simp (maxSteps := 1000000) only [go_sem, bools, List.length_map, hr, hr2, g1, g2, g3] <;> exact rfl) (by simp (disch := omega) only [go_sem, w64, wU, bools, List.length_map, hr, hr2, g1, g2, g3] <;> exact rfl) ?_
          refine retK.fin rfl (by simp (maxSteps := 1000000) only [go_sem, bools, List.length_map, hr, hr2, g1, g2, g3] <;> exact rfl) (by simp (maxSteps := 1000000) only [go_sem, bools, List.length_map, hr, hr2, g1, g2, g3] <;> exact rfl) (.of ?_)
          have : a ≠ b := fun e => by subst e; simp at hc3
          simp [this]
        · try simp only [decide_eq_true_eq, decide_eq_false_iff_not, Bool.or_eq_true, Bool.or_eq_false_iff, Bool.and_eq_true, Bool.and_eq_false_imp, Bool.not_eq_true', Bool.not_eq_false'] at hc3
          refine AW.skip ?_
          show AW _ _ _ _ _
          refine AW.regR1 rfl (by simp (maxSteps := 1000000) only [go_sem, bools, List.length_map, hr, hr2, g1, g2, g3] <;> exact rfl) (by simp (disch := omega) only [go_sem, w64, wU, bools, List.length_map, hr, hr2, g1, g2, g3] <;> exact rfl) ?_
          refine ⟨(i + 1), ?_, ?_, ?_⟩
          · (try dsimp only); omega
          · exact ⟨by omega, by omega, fun j hj => if e : (j : Int) < i then h3 j e else by (have hji : j = i.toNat := by omega); subst hji; simpa using hc3⟩
          · refine Wk.sub ?_
            simp (maxSteps := 1000000) (disch := omega) only [go_sem, w64, wU, bools, List.length_map, hr, hr2, g1, g2, g3]
      · try simp only [decide_eq_true_eq, decide_eq_false_iff_not, Bool.or_eq_true, Bool.or_eq_false_iff, Bool.and_eq_true, Bool.and_eq_false_imp, Bool.not_eq_true', Bool.not_eq_false'] at hc2
        refine AW.exit ?_
        show AW _ _ _ _ _
        refine AW.regR rfl (by simp (maxSteps := 1000000) only [go_sem, bools, List.length_map] <;> exact rfl) (by simp (disch := omega) only [go_sem, w64, wU, bools, List.length_map] <;> exact rfl) ?_
        refine retK.fin rfl (by simp (maxSteps := 1000000) only [go_sem, bools, List.length_map] <;> exact rfl) (by simp (maxSteps := 1000000) only [go_sem, bools, List.length_map] <;> exact rfl) (.of ?_)
        have : a = b := bools_ext (by omega) (fun j hj => h3 j (by omega))
        simp [this]
theorem c82 (l : List (List Int)) (most : Int) (hl : Wf l) : PC Try.prog 82 [cls l, .int .i64 most] (.int .i64 (fewC l most)) := by
  refine PC.start 22 Try.call82 Try.func82 rfl Try.ntmps82 Try.results82 (by simp only [go_sem]; exact rfl) fun z hz => ?_
  have hl1 := hl.1
  refine AW.regR rfl (by simp (maxSteps := 1000000) only [go_sem, cls, cl, List.length_map] <;> exact rfl) (by simp (disch := omega) only [go_sem, w64, wU, cls, cl, List.length_map] <;> exact rfl) ?_
  refine AW.seq ?_
  refine AW.regR rfl (by simp (maxSteps := 1000000) only [go_sem, cls, cl, List.length_map] <;> exact rfl) (by simp (disch := omega) only [go_sem, w64, wU, cls, cl, List.length_map] <;> exact rfl) ?_
  refine AW.cond (by simp (maxSteps := 1000000) only [go_sem, cls, cl, List.length_map] <;> exact rfl) (fun hc1 => ?_) (fun hc1 => ?_)
  · try simp only [decide_eq_true_eq, decide_eq_false_iff_not, Bool.or_eq_true, Bool.or_eq_false_iff, Bool.and_eq_true, Bool.and_eq_false_imp, Bool.not_eq_true', Bool.not_eq_false'] at hc1
    refine AW.regR rfl (by simp (maxSteps := 1000000) only [go_sem, cls, cl, List.length_map] <;> exact rfl) (by simp (disch := omega) only [go_sem, w64, wU, cls, cl, List.length_map] <;> exact rfl) ?_
    refine retK.fin rfl (by simp (maxSteps := 1000000) only [go_sem, cls, cl, List.length_map] <;> exact rfl) (by simp (maxSteps := 1000000) only [go_sem, cls, cl, List.length_map] <;> exact rfl) (.of ?_)
    unfold fewC; rw [if_pos (by omega)]
  · try simp only [decide_eq_true_eq, decide_eq_false_iff_not, Bool.or_eq_true, Bool.or_eq_false_iff, Bool.and_eq_true, Bool.and_eq_false_imp, Bool.not_eq_true', Bool.not_eq_false'] at hc1
    refine AW.skip ?_
    show AW _ _ _ _ _
    refine AW.seq ?_
    refine AW.regR rfl (by simp (maxSteps := 1000000) only [go_sem, cls, cl, List.length_map] <;> exact rfl) (by simp (disch := omega) only [go_sem, w64, wU, cls, cl, List.length_map] <;> exact rfl) ?_
    refine AW.block ?_
    refine AW.loopVh (α := (Int)) (fun (i : (Int)) => [(5, .pv (.int .i64 i))]) (fun (i : (Int)) => (0 ≤ i) ∧ (i ≤ (l.length : Int)) ∧ (∀ j : Nat, (j : Int) < i → ¬ 40 < (l.getD j []).length)) (fun (i : (Int)) => ((l.length : Int) - i).toNat) 0 ?_ ?_ ?_
    · exact ⟨by omega, by omega, fun j hj => by omega⟩
    · refine Wk.sub ?_
      simp (maxSteps := 1000000) (disch := omega) only [go_sem, w64, wU, cls, cl, List.length_map]
    · rintro i hF _ ht
      simp only [updT, go_sem] at ht
      subst ht
      obtain ⟨h1, h2, h3⟩ := hF
      refine AW.seq ?_
      refine AW.regR rfl (by simp (maxSteps := 1000000) only [go_sem, cls, cl, List.length_map] <;> exact rfl) (by simp (disch := omega) only [go_sem, w64, wU, cls, cl, List.length_map] <;> exact rfl) ?_
      refine AW.cond (by simp (maxSteps := 1000000) only [go_sem, cls, cl, List.length_map] <;> exact rfl) (fun hc2 => ?_) (fun hc2 => ?_)
      · try simp only [decide_eq_true_eq, decide_eq_false_iff_not, Bool.or_eq_true, Bool.or_eq_false_iff, Bool.and_eq_true, Bool.and_eq_false_imp, Bool.not_eq_true', Bool.not_eq_false'] at hc2
        have hr : (l.map fun c => [PV.lst false 1 (c.map fun x => [PV.int .i64 x])])[i.toNat]? = some [.lst false 1 ((l.getD i.toNat []).map fun x => [.int .i64 x])] := cls_at ⟨h1, hc2⟩
        have g1 : 0 ≤ i := h1
        have g2 : i < (l.length : Int) := hc2
        refine AW.skip ?_
        show AW _ _ _ _ _
        refine AW.seq ?_
        refine AW.block ?_
        refine AW.regR rfl (by simp (maxSteps := 1000000) only [go_sem, cls, cl, List.length_map, hr, g1, g2] <;> exact rfl) (by simp (disch := omega) only [go_sem, w64, wU, cls, cl, List.length_map, hr, g1, g2] <;> exact rfl) ?_
        refine AW.cond (by simp (maxSteps := 1000000) only [go_sem, cls, cl, List.length_map, hr, g1, g2] <;> exact rfl) (fun hc3 => ?_) (fun hc3 => ?_)
        · try simp only [decide_eq_true_eq, decide_eq_false_iff_not, Bool.or_eq_true, Bool.or_eq_false_iff, Bool.and_eq_true, Bool.and_eq_false_imp, Bool.not_eq_true', Bool.not_eq_false'] at hc3
          refine AW.regR rfl (by simp (maxSteps := 1000000) only [go_sem, cls, cl, List.length_map, hr, g1, g2] <;> exact rfl) (by simp (disch := omega) only [go_sem, w64, wU, cls, cl, List.length_map, hr, g1, g2] <;> exact rfl) ?_
          refine retK.fin rfl (by simp (maxSteps := 1000000) only [go_sem, cls, cl, List.length_map, hr, g1, g2] <;> exact rfl) (by simp (maxSteps := 1000000) only [go_sem, cls, cl, List.length_map, hr, g1, g2] <;> exact rfl) (.of ?_)
          unfold fewC; rw [if_neg (by omega), if_pos (any_at (d := []) (j := i.toNat) (by omega) (decide_eq_true (by omega)))]
        · try simp only [decide_eq_true_eq, decide_eq_false_iff_not, Bool.or_eq_true, Bool.or_eq_false_iff, Bool.and_eq_true, Bool.and_eq_false_imp, Bool.not_eq_true', Bool.not_eq_false'] at hc3
          refine AW.skip ?_
          show AW _ _ _ _ _
          refine AW.regR1 rfl (by simp (maxSteps := 1000000) only [go_sem, cls, cl, List.length_map, hr, g1, g2] <;> exact rfl) (by simp (disch := omega) only [go_sem, w64, wU, cls, cl, List.length_map, hr, g1, g2] <;> exact rfl) ?_
          refine ⟨(i + 1), ?_, ?_, ?_⟩
          · (try dsimp only); omega
          · exact ⟨by omega, by omega, fun j hj => if e : (j : Int) < i then h3 j e else by (have hji : j = i.toNat := by omega); subst hji; omega⟩
          · refine Wk.sub ?_
            simp (maxSteps := 1000000) (disch := omega) only [go_sem, w64, wU, cls, cl, List.length_map, hr, g1, g2]
      · try simp only [decide_eq_true_eq, decide_eq_false_iff_not, Bool.or_eq_true, Bool.or_eq_false_iff, Bool.and_eq_true, Bool.and_eq_false_imp, Bool.not_eq_true', Bool.not_eq_false'] at hc2
        refine AW.exit ?_
        show AW _ _ _ _ _
        refine AW.regR rfl (by simp (maxSteps := 1000000) only [go_sem, cls, cl, List.length_map] <;> exact rfl) (by simp (disch := omega) only [go_sem, w64, wU, cls, cl, List.length_map] <;> exact rfl) ?_
        refine retK.fin rfl (by simp (maxSteps := 1000000) only [go_sem, cls, cl, List.length_map] <;> exact rfl) (by simp (maxSteps := 1000000) only [go_sem, cls, cl, List.length_map] <;> exact rfl) (.of ?_)
        unfold fewC; rw [if_neg (by omega), if_neg (by rw [any_not [] (fun j hj => by have := h3 j (by omega); simpa using this)]; exact Bool.false_ne_true)]
theorem c133 (vars : Int) (l : List (List Int)) (hl : Wf l) : PC Try.prog 133 [.int .i64 vars, cls l] (.int .i64 (mayC vars l)) := by
  refine PC.start 14 Try.call133 Try.func133 rfl Try.ntmps133 Try.results133 (by simp only [go_sem]; exact rfl) fun z hz => ?_
  refine AW.regR rfl (by simp (maxSteps := 1000000) only [go_sem] <;> exact rfl) (by simp (disch := omega) only [go_sem, w64, wU] <;> exact rfl) ?_
  refine AW.seq ?_
  refine AW.regS rfl ?_
  refine ARN.run1 (by simp (maxSteps := 1000000) only [go_sem] <;> exact rfl) ?_
  refine ARN.pcall (fun hp => c85 vars l hl) rfl (by simp (maxSteps := 1000000) only [go_sem] <;> exact rfl) (by simp only [go_sem]) (by simp (maxSteps := 1000000) only [go_sem] <;> exact rfl) ?_
  refine ARN.run1 (by simp (maxSteps := 1000000) only [go_sem] <;> exact rfl) ?_
  refine ARN.fin (by simp (disch := omega) only [go_sem, w64, wU] <;> exact rfl) ?_
  refine AW.regR rfl (by simp (maxSteps := 1000000) only [go_sem] <;> exact rfl) (by simp (disch := omega) only [go_sem, w64, wU] <;> exact rfl) ?_
  refine AW.cond (by simp (maxSteps := 1000000) only [go_sem] <;> exact rfl) (fun hc1 => ?_) (fun hc1 => ?_)
  · try simp only [decide_eq_true_eq, decide_eq_false_iff_not, Bool.or_eq_true, Bool.or_eq_false_iff, Bool.and_eq_true, Bool.and_eq_false_imp, Bool.not_eq_true', Bool.not_eq_false'] at hc1
    refine AW.regR rfl (by simp (maxSteps := 1000000) only [go_sem] <;> exact rfl) (by simp (disch := omega) only [go_sem, w64, wU] <;> exact rfl) ?_
    refine retK.fin rfl (by simp (maxSteps := 1000000) only [go_sem] <;> exact rfl) (by simp (maxSteps := 1000000) only [go_sem] <;> exact rfl) (.of ?_)
    unfold mayC; rw [if_neg hc1]
  · try simp only [decide_eq_true_eq, decide_eq_false_iff_not, Bool.or_eq_true, Bool.or_eq_false_iff, Bool.and_eq_true, Bool.and_eq_false_imp, Bool.not_eq_true', Bool.not_eq_false'] at hc1
    refine AW.skip ?_
    show AW _ _ _ _ _
    refine AW.seq ?_
    refine AW.regR rfl (by simp (maxSteps := 1000000) only [go_sem] <;> exact rfl) (by simp (disch := omega) only [go_sem, w64, wU] <;> exact rfl) ?_
    refine AW.cond (by simp (maxSteps := 1000000) only [go_sem] <;> exact rfl) (fun hc2 => ?_) (fun hc2 => ?_)
    · try simp only [decide_eq_true_eq, decide_eq_false_iff_not, Bool.or_eq_true, Bool.or_eq_false_iff, Bool.and_eq_true, Bool.and_eq_false_imp, Bool.not_eq_true', Bool.not_eq_false'] at hc2
      refine AW.regR rfl (by simp (maxSteps := 1000000) only [go_sem] <;> exact rfl) (by simp (disch := omega) only [go_sem, w64, wU] <;> exact rfl) ?_
      refine retK.fin rfl (by simp (maxSteps := 1000000) only [go_sem] <;> exact rfl) (by simp (maxSteps := 1000000) only [go_sem] <;> exact rfl) (.of ?_)
      unfold mayC; rw [if_pos hc1, if_pos hc2]
    · try simp only [decide_eq_true_eq, decide_eq_false_iff_not, Bool.or_eq_true, Bool.or_eq_false_iff, Bool.and_eq_true, Bool.and_eq_false_imp, Bool.not_eq_true', Bool.not_eq_false'] at hc2
      refine AW.skip ?_
      show AW _ _ _ _ _
      refine AW.regR rfl (by simp (maxSteps := 1000000) only [go_sem] <;> exact rfl) (by simp (disch := omega) only [go_sem, w64, wU] <;> exact rfl) ?_
      refine retK.fin rfl (by simp (maxSteps := 1000000) only [go_sem] <;> exact rfl) (by simp (maxSteps := 1000000) only [go_sem] <;> exact rfl) (.of ?_)
      unfold mayC; rw [if_pos hc1, if_neg hc2]
theorem c137 (vars n : Int) (hv : 0 ≤ vars ∧ vars ≤ 16) (hn : 0 ≤ n ∧ n ≤ 65536) : PC Try.prog 137 [.int .i64 vars, .int .i64 n] (bools false (tr vars.toNat n)) := by
  refine PC.start 21 Try.call137 Try.func137 rfl Try.ntmps137 Try.results137 (by simp only [go_sem]; exact rfl) fun z hz => ?_
  refine AW.regR rfl (by simp (maxSteps := 1000000) only [go_sem, List.length_map, List.length_append, List.map_append, Nat.mul_one] <;> exact rfl) (by simp (disch := omega) only [go_sem, w64, wU, List.length_map, List.length_append, List.map_append, Nat.mul_one] <;> exact rfl) ?_
  refine AW.regR rfl (by simp (maxSteps := 1000000) only [go_sem, List.length_map, List.length_append, List.map_append, Nat.mul_one] <;> exact rfl) (by simp (disch := omega) only [go_sem, w64, wU, List.length_map, List.length_append, List.map_append, Nat.mul_one] <;> exact rfl) ?_
  refine AW.seq ?_
  refine AW.regR rfl (by simp (maxSteps := 1000000) only [go_sem, List.length_map, List.length_append, List.map_append, Nat.mul_one] <;> exact rfl) (by simp (disch := omega) only [go_sem, w64, wU, List.length_map, List.length_append, List.map_append, Nat.mul_one] <;> exact rfl) ?_
  refine AW.block ?_
  refine AW.loopV (α := (List Bool) × (Int) × (Int)) (fun ((m, v, q) : (List Bool) × (Int) × (Int)) => [(1, .pv (.int .i64 q)), (5, .vs 0 0 m.length), (6, .pv (.int .i64 v))]) (fun ((m, v, q) : (List Bool) × (Int) × (Int)) => [.vec 1 (m.map fun x => [.bool x])]) (fun ((m, v, q) : (List Bool) × (Int) × (Int)) => (0 ≤ v) ∧ (v ≤ vars) ∧ (m ++ tr (vars - v).toNat q = tr vars.toNat n) ∧ (0 ≤ q) ∧ (q ≤ 65536) ∧ ((m.length : Int) = v)) (fun ((m, v, q) : (List Bool) × (Int) × (Int)) => (vars - v).toNat) ([], 0, n) ?_ ?_ ?_
  · exact ⟨by omega, by omega, by simp, by omega, by omega, rfl⟩
  · exact Wk.vec 1 5 0 rfl
  · rintro ⟨m, v, q⟩ hF _ ht _ hh
    simp only [updT, go_sem] at ht hh
    subst ht; subst hh
    obtain ⟨h1, h2, h3, h4, h5, h6⟩ := hF
    refine AW.seq ?_
    refine AW.regR rfl (by simp (maxSteps := 1000000) only [go_sem, List.length_map, List.length_append, List.map_append, Nat.mul_one] <;> exact rfl) (by simp (disch := omega) only [go_sem, w64, wU, List.length_map, List.length_append, List.map_append, Nat.mul_one] <;> exact rfl) ?_
    refine AW.cond (by simp (maxSteps := 1000000) only [go_sem, List.length_map, List.length_append, List.map_append, Nat.mul_one] <;> exact rfl) (fun hc1 => ?_) (fun hc1 => ?_)
    · try simp only [decide_eq_true_eq, decide_eq_false_iff_not, Bool.or_eq_true, Bool.or_eq_false_iff, Bool.and_eq_true, Bool.and_eq_false_imp, Bool.not_eq_true', Bool.not_eq_false'] at hc1
      have htm : q.tmod 2 = q % 2 := Int.tmod_eq_emod_of_nonneg h4
      have htd : q.tdiv 2 = q / 2 := Int.tdiv_eq_ediv_of_nonneg h4
      have hap : (m.length + 1 ≤ 140737488355328) = True := eq_true (by omega)
      refine AW.skip ?_
      show AW _ _ _ _ _
      refine AW.seq ?_
      refine AW.block ?_
      refine AW.regR rfl (by simp (maxSteps := 1000000) only [go_sem, List.length_map, List.length_append, List.map_append, Nat.mul_one, htm, htd, hap] <;> exact rfl) (by simp (disch := omega) only [go_sem, w64, wU, List.length_map, List.length_append, List.map_append, Nat.mul_one, htm, htd, hap] <;> exact rfl) ?_
      refine AW.regR1 rfl (by simp (maxSteps := 1000000) only [go_sem, List.length_map, List.length_append, List.map_append, Nat.mul_one, htm, htd, hap] <;> exact rfl) (by simp (disch := omega) only [go_sem, w64, wU, List.length_map, List.length_append, List.map_append, Nat.mul_one, htm, htd, hap] <;> exact rfl) ?_
      show AW _ _ _ _ _
      refine AW.regR1 rfl (by simp (maxSteps := 1000000) only [go_sem, List.length_map, List.length_append, List.map_append, Nat.mul_one, htm, htd, hap] <;> exact rfl) (by simp (disch := omega) only [go_sem, w64, wU, List.length_map, List.length_append, List.map_append, Nat.mul_one, htm, htd, hap] <;> exact rfl) ?_
      refine ⟨(m ++ [decide (q % 2 = 1)], v + 1, q / 2), ?_, ?_, ?_⟩
      · (try dsimp only); omega
      · refine ⟨by omega, by omega, ?_, by omega, by omega, by simp; omega⟩
        have hk : (vars - v).toNat = (vars - (v + 1)).toNat + 1 := by omega
        rw [hk] at h3; simpa [tr] using h3
      · refine Wk.to [] [1] hz (by decide) ?_ ?_
        · simp (maxSteps := 1000000) (disch := omega) only [go_sem, w64, wU, List.length_map, List.length_append, List.map_append, Nat.mul_one, htm, htd, hap]
        · simp (maxSteps := 1000000) (disch := omega) only [go_sem, w64, wU, List.length_map, List.length_append, List.map_append, Nat.mul_one, htm, htd, hap]
    · try simp only [decide_eq_true_eq, decide_eq_false_iff_not, Bool.or_eq_true, Bool.or_eq_false_iff, Bool.and_eq_true, Bool.and_eq_false_imp, Bool.not_eq_true', Bool.not_eq_false'] at hc1
      refine AW.exit ?_
      show AW _ _ _ _ _
      refine AW.regR rfl (by simp (maxSteps := 1000000) only [go_sem, List.length_map, List.length_append, List.map_append, Nat.mul_one] <;> exact rfl) (by simp (disch := omega) only [go_sem, w64, wU, List.length_map, List.length_append, List.map_append, Nat.mul_one] <;> exact rfl) ?_
      refine retK.fin rfl (by simp (maxSteps := 1000000) only [go_sem, List.length_map, List.length_append, List.map_append, Nat.mul_one] <;> exact rfl) (by simp (maxSteps := 1000000) only [go_sem, List.length_map, List.length_append, List.map_append, Nat.mul_one] <;> exact rfl) (.of ?_)
      have hk : (vars - v).toNat = 0 := by omega
      have e : m = tr vars.toNat n := by (rw [hk] at h3; simpa [tr] using h3)
      subst e; simp only [bools]; exact congrArg (PV.lst false 1) (List.take_of_length_le (by simp))
theorem c134 (vars : Int) (l : List (List Int)) (N : Nat) (hv : 0 ≤ vars ∧ vars ≤ 16) (hN : N = 2 ^ vars.toNat) (hl : Wf l) : PC Try.prog 134 [.int .i64 vars, cls l] (.tup [.int .i64 (cnt vars.toNat l N), .int .i64 (fst vars.toNat l N)]) := by
  refine PC.start 29 Try.call134 Try.func134 rfl Try.ntmps134 Try.results134 (by simp only [go_sem]; exact rfl) fun z hz => ?_
  have hN2 : N ≤ 65536 := by rw [hN]; exact pow_le hv.2
  have hw : IntKind.u64.wrap vars = vars := wU (by omega) (by omega)
  have hsh : ishl .i64 1 vars = (N : Int) := shl_one hv hN
  have hv0 : ¬ (vars < 0) := by omega
  refine AW.regR rfl (by simp (maxSteps := 1000000) only [go_sem, cnt_z, fst_z, hw, hsh, hv0] <;> exact rfl) (by simp (disch := omega) only [go_sem, w64, wU, cnt_z, fst_z, hw, hsh, hv0] <;> exact rfl) ?_
  refine AW.regR rfl (by simp (maxSteps := 1000000) only [go_sem, cnt_z, fst_z, hw, hsh, hv0] <;> exact rfl) (by simp (disch := omega) only [go_sem, w64, wU, cnt_z, fst_z, hw, hsh, hv0] <;> exact rfl) ?_
  refine AW.regR rfl (by simp (maxSteps := 1000000) only [go_sem, cnt_z, fst_z, hw, hsh, hv0] <;> exact rfl) (by simp (disch := omega) only [go_sem, w64, wU, cnt_z, fst_z, hw, hsh, hv0] <;> exact rfl) ?_
  refine AW.seq ?_
  refine AW.regR rfl (by simp (maxSteps := 1000000) only [go_sem, cnt_z, fst_z, hw, hsh, hv0] <;> exact rfl) (by simp (disch := omega) only [go_sem, w64, wU, cnt_z, fst_z, hw, hsh, hv0] <;> exact rfl) ?_
  refine AW.block ?_
  refine AW.loopVh (α := (Int)) (fun (i : (Int)) => [(6, .pv (.int .i64 (cnt vars.toNat l i.toNat))), (7, .pv (.int .i64 (fst vars.toNat l i.toNat))), (8, .pv (.int .i64 i))]) (fun (i : (Int)) => (0 ≤ i) ∧ (i ≤ (N : Int))) (fun (i : (Int)) => ((N : Int) - i).toNat) 0 ?_ ?_ ?_
  · exact ⟨by omega, by omega⟩
  · refine Wk.sub ?_
    simp (maxSteps := 1000000) (disch := omega) only [go_sem, w64, wU, cnt_z, fst_z, hw, hsh, hv0]
  · rintro i hF _ ht
    simp only [updT, go_sem] at ht
    subst ht
    obtain ⟨h1, h2⟩ := hF
    refine AW.seq ?_
    refine AW.regR rfl (by simp (maxSteps := 1000000) only [go_sem, cnt_z, fst_z, hw, hsh, hv0] <;> exact rfl) (by simp (disch := omega) only [go_sem, w64, wU, cnt_z, fst_z, hw, hsh, hv0] <;> exact rfl) ?_
    refine AW.cond (by simp (maxSteps := 1000000) only [go_sem, cnt_z, fst_z, hw, hsh, hv0] <;> exact rfl) (fun hc1 => ?_) (fun hc1 => ?_)
    · try simp only [decide_eq_true_eq, decide_eq_false_iff_not, Bool.or_eq_true, Bool.or_eq_false_iff, Bool.and_eq_true, Bool.and_eq_false_imp, Bool.not_eq_true', Bool.not_eq_false'] at hc1
      refine AW.skip ?_
      show AW _ _ _ _ _
      refine AW.seq ?_
      refine AW.block ?_
      have hcr := cnt_rng vars.toNat l i.toNat
      refine AW.regS rfl ?_
      refine ARN.run1 (by simp (maxSteps := 1000000) only [go_sem, cnt_z, fst_z, hw, hsh, hv0] <;> exact rfl) ?_
      refine ARN.pcall (fun hp => c137 vars i hv ⟨h1, by omega⟩) rfl (by simp (maxSteps := 1000000) only [go_sem, cnt_z, fst_z, hw, hsh, hv0] <;> exact rfl) (by simp only [go_sem]) (by simp (maxSteps := 1000000) only [go_sem, cnt_z, fst_z, hw, hsh, hv0] <;> exact rfl) ?_
      refine ARN.pcall (fun hp => c87 l false (tr vars.toNat i) hl) rfl (by simp (maxSteps := 1000000) only [go_sem, cnt_z, fst_z, hw, hsh, hv0] <;> exact rfl) (by simp only [go_sem]) (by simp (maxSteps := 1000000) only [go_sem, cnt_z, fst_z, hw, hsh, hv0] <;> exact rfl) ?_
      refine ARN.run1 (by simp (maxSteps := 1000000) only [go_sem, cnt_z, fst_z, hw, hsh, hv0] <;> exact rfl) ?_
      refine ARN.fin (by simp (disch := omega) only [go_sem, w64, wU, cnt_z, fst_z, hw, hsh, hv0] <;> exact rfl) ?_
      refine AW.cond (by simp (maxSteps := 1000000) only [go_sem, cnt_z, fst_z, hw, hsh, hv0] <;> exact rfl) (fun hc2 => ?_) (fun hc2 => ?_)
      · try simp only [decide_eq_true_eq, decide_eq_false_iff_not, Bool.or_eq_true, Bool.or_eq_false_iff, Bool.and_eq_true, Bool.and_eq_false_imp, Bool.not_eq_true', Bool.not_eq_false'] at hc2
        have hcn : cnt vars.toNat l (i + 1).toNat = cnt vars.toNat l i.toNat + 1 := cnt_yes h1 hc2
        refine AW.seq ?_
        refine AW.regR rfl (by simp (maxSteps := 1000000) only [go_sem, cnt_z, fst_z, hw, hsh, hv0, hcn] <;> exact rfl) (by simp (disch := omega) only [go_sem, w64, wU, cnt_z, fst_z, hw, hsh, hv0, hcn] <;> exact rfl) ?_
        refine AW.cond (by simp (maxSteps := 1000000) only [go_sem, cnt_z, fst_z, hw, hsh, hv0, hcn] <;> exact rfl) (fun hc3 => ?_) (fun hc3 => ?_)
        · try simp only [decide_eq_true_eq, decide_eq_false_iff_not, Bool.or_eq_true, Bool.or_eq_false_iff, Bool.and_eq_true, Bool.and_eq_false_imp, Bool.not_eq_true', Bool.not_eq_false'] at hc3
          have hfn : fst vars.toNat l (i + 1).toNat = i := fst_yes h1 hc2 hc3
          refine AW.regR1 rfl (by simp (maxSteps := 1000000) only [go_sem, cnt_z, fst_z, hw, hsh, hv0, hcn, hfn] <;> exact rfl) (by simp (disch := omega) only [go_sem, w64, wU, cnt_z, fst_z, hw, hsh, hv0, hcn, hfn] <;> exact rfl) ?_
          show AW _ _ _ _ _
          refine AW.regR1 rfl (by simp (maxSteps := 1000000) only [go_sem, cnt_z, fst_z, hw, hsh, hv0, hcn, hfn] <;> exact rfl) (by simp (disch := omega) only [go_sem, w64, wU, cnt_z, fst_z, hw, hsh, hv0, hcn, hfn] <;> exact rfl) ?_
          show AW _ _ _ _ _
          refine AW.regR1 rfl (by simp (maxSteps := 1000000) only [go_sem, cnt_z, fst_z, hw, hsh, hv0, hcn, hfn] <;> exact rfl) (by simp (disch := omega) only [go_sem, w64, wU, cnt_z, fst_z, hw, hsh, hv0, hcn, hfn] <;> exact rfl) ?_
          refine ⟨(i + 1), ?_, ?_, ?_⟩
          · (try dsimp only); omega
          · exact ⟨by omega, by omega⟩
          · refine Wk.sub ?_
            simp (maxSteps := 1000000) (disch := omega) only [go_sem, w64, wU, cnt_z, fst_z, hw, hsh, hv0, hcn, hfn]
        · try simp only [decide_eq_true_eq, decide_eq_false_iff_not, Bool.or_eq_true, Bool.or_eq_false_iff, Bool.and_eq_true, Bool.and_eq_false_imp, Bool.not_eq_true', Bool.not_eq_false'] at hc3
          have hfn : fst vars.toNat l (i + 1).toNat = fst vars.toNat l i.toNat := fst_keep h1 (fun hh => hc3 hh.1)
          refine AW.skip ?_
          show AW _ _ _ _ _
          refine AW.regR1 rfl (by simp (maxSteps := 1000000) only [go_sem, cnt_z, fst_z, hw, hsh, hv0, hcn, hfn] <;> exact rfl) (by simp (disch := omega) only [go_sem, w64, wU, cnt_z, fst_z, hw, hsh, hv0, hcn, hfn] <;> exact rfl) ?_
          show AW _ _ _ _ _
          refine AW.regR1 rfl (by simp (maxSteps := 1000000) only [go_sem, cnt_z, fst_z, hw, hsh, hv0, hcn, hfn] <;> exact rfl) (by simp (disch := omega) only [go_sem, w64, wU, cnt_z, fst_z, hw, hsh, hv0, hcn, hfn] <;> exact rfl) ?_
          refine ⟨(i + 1), ?_, ?_, ?_⟩
          · (try dsimp only); omega
          · exact ⟨by omega, by omega⟩
          · refine Wk.sub ?_
            simp (maxSteps := 1000000) (disch := omega) only [go_sem, w64, wU, cnt_z, fst_z, hw, hsh, hv0, hcn, hfn]
      · try simp only [decide_eq_true_eq, decide_eq_false_iff_not, Bool.or_eq_true, Bool.or_eq_false_iff, Bool.and_eq_true, Bool.and_eq_false_imp, Bool.not_eq_true', Bool.not_eq_false'] at hc2
        have hcn : cnt vars.toNat l (i + 1).toNat = cnt vars.toNat l i.toNat := cnt_no h1 hc2
        have hfn : fst vars.toNat l (i + 1).toNat = fst vars.toNat l i.toNat := fst_keep h1 (fun hh => hc2 hh.2)
        refine AW.skip ?_
        show AW _ _ _ _ _
        refine AW.regR1 rfl (by simp (maxSteps := 1000000) only [go_sem, cnt_z, fst_z, hw, hsh, hv0, hcn, hfn] <;> exact rfl) (by simp (disch := omega) only [go_sem, w64, wU, cnt_z, fst_z, hw, hsh, hv0, hcn, hfn] <;> exact rfl) ?_
        refine ⟨(i + 1), ?_, ?_, ?_⟩
        · (try dsimp only); omega
        · exact ⟨by omega, by omega⟩
        · refine Wk.sub ?_
          simp (maxSteps := 1000000) (disch := omega) only [go_sem, w64, wU, cnt_z, fst_z, hw, hsh, hv0, hcn, hfn]
    · try simp only [decide_eq_true_eq, decide_eq_false_iff_not, Bool.or_eq_true, Bool.or_eq_false_iff, Bool.and_eq_true, Bool.and_eq_false_imp, Bool.not_eq_true', Bool.not_eq_false'] at hc1
      refine AW.exit ?_
      show AW _ _ _ _ _
      refine AW.regR rfl (by simp (maxSteps := 1000000) only [go_sem, cnt_z, fst_z, hw, hsh, hv0] <;> exact rfl) (by simp (disch := omega) only [go_sem, w64, wU, cnt_z, fst_z, hw, hsh, hv0] <;> exact rfl) ?_
      refine retK.fin rfl (by simp (maxSteps := 1000000) only [go_sem, cnt_z, fst_z, hw, hsh, hv0] <;> exact rfl) (by simp (maxSteps := 1000000) only [go_sem, cnt_z, fst_z, hw, hsh, hv0] <;> exact rfl) (.of ?_)
      have hi : i.toNat = N := by omega
      rw [hi]
theorem c89 (vars : Int) (l : List (List Int)) (hl : Wf l) : PC Try.prog 89 [.int .i64 vars, cls l] (.tup [.int .i64 (cntV vars l), .int .i64 (mayC vars l)]) := by
  refine PC.start 22 Try.call89 Try.func89 rfl Try.ntmps89 Try.results89 (by simp only [go_sem]; exact rfl) fun z hz => ?_
  refine AW.regR rfl (by simp (maxSteps := 1000000) only [go_sem] <;> exact rfl) (by simp (disch := omega) only [go_sem, w64, wU] <;> exact rfl) ?_
  refine AW.seq ?_
  refine AW.regS rfl ?_
  refine ARN.run1 (by simp (maxSteps := 1000000) only [go_sem] <;> exact rfl) ?_
  refine ARN.pcall (fun hp => c133 vars l hl) rfl (by simp (maxSteps := 1000000) only [go_sem] <;> exact rfl) (by simp only [go_sem]) (by simp (maxSteps := 1000000) only [go_sem] <;> exact rfl) ?_
  refine ARN.run1 (by simp (maxSteps := 1000000) only [go_sem] <;> exact rfl) ?_
  refine ARN.fin (by simp (disch := omega) only [go_sem, w64, wU] <;> exact rfl) ?_
  refine AW.regR rfl (by simp (maxSteps := 1000000) only [go_sem] <;> exact rfl) (by simp (disch := omega) only [go_sem, w64, wU] <;> exact rfl) ?_
  refine AW.cond (by simp (maxSteps := 1000000) only [go_sem] <;> exact rfl) (fun hc1 => ?_) (fun hc1 => ?_)
  · try simp only [decide_eq_true_eq, decide_eq_false_iff_not, Bool.or_eq_true, Bool.or_eq_false_iff, Bool.and_eq_true, Bool.and_eq_false_imp, Bool.not_eq_true', Bool.not_eq_false'] at hc1
    refine AW.regR rfl (by simp (maxSteps := 1000000) only [go_sem] <;> exact rfl) (by simp (disch := omega) only [go_sem, w64, wU] <;> exact rfl) ?_
    refine retK.fin rfl (by simp (maxSteps := 1000000) only [go_sem] <;> exact rfl) (by simp (maxSteps := 1000000) only [go_sem] <;> exact rfl) (.of ?_)
    unfold cntV; rw [if_neg hc1]
  · try simp only [decide_eq_true_eq, decide_eq_false_iff_not, Bool.or_eq_true, Bool.or_eq_false_iff, Bool.and_eq_true, Bool.and_eq_false_imp, Bool.not_eq_true', Bool.not_eq_false'] at hc1
    refine AW.skip ?_
    show AW _ _ _ _ _
    refine AW.regS rfl ?_
    refine ARN.run1 (by simp (maxSteps := 1000000) only [go_sem] <;> exact rfl) ?_
    refine ARN.pcall (fun hp => c134 vars l (2 ^ vars.toNat) (may_rng hc1) rfl hl) rfl (by simp (maxSteps := 1000000) only [go_sem] <;> exact rfl) (by simp only [go_sem]) (by simp (maxSteps := 1000000) only [go_sem] <;> exact rfl) ?_
    refine ARN.run1 (by simp (maxSteps := 1000000) only [go_sem] <;> exact rfl) ?_
    refine ARN.fin (by simp (disch := omega) only [go_sem, w64, wU] <;> exact rfl) ?_
    refine AW.regR rfl (by simp (maxSteps := 1000000) only [go_sem] <;> exact rfl) (by simp (disch := omega) only [go_sem, w64, wU] <;> exact rfl) ?_
    refine retK.fin rfl (by simp (maxSteps := 1000000) only [go_sem] <;> exact rfl) (by simp (maxSteps := 1000000) only [go_sem] <;> exact rfl) (.of ?_)
    unfold cntV; rw [if_pos hc1, hc1]
theorem c91 (vars : Int) (l : List (List Int)) (hl : Wf l) : PC Try.prog 91 [.int .i64 vars, cls l] (.tup [bools false (mF vars l), .bool (okF vars l), .int .i64 (mayC vars l)]) := by
  refine PC.start 27 Try.call91 Try.func91 rfl Try.ntmps91 Try.results91 (by simp only [go_sem]; exact rfl) fun z hz => ?_
  refine AW.regR rfl (by simp (maxSteps := 1000000) only [go_sem] <;> exact rfl) (by simp (disch := omega) only [go_sem, w64, wU] <;> exact rfl) ?_
  refine AW.seq ?_
  refine AW.regS rfl ?_
  refine ARN.run1 (by simp (maxSteps := 1000000) only [go_sem] <;> exact rfl) ?_
  refine ARN.pcall (fun hp => c133 vars l hl) rfl (by simp (maxSteps := 1000000) only [go_sem] <;> exact rfl) (by simp only [go_sem]) (by simp (maxSteps := 1000000) only [go_sem] <;> exact rfl) ?_
  refine ARN.run1 (by simp (maxSteps := 1000000) only [go_sem] <;> exact rfl) ?_
  refine ARN.fin (by simp (disch := omega) only [go_sem, w64, wU] <;> exact rfl) ?_
  refine AW.regR rfl (by simp (maxSteps := 1000000) only [go_sem] <;> exact rfl) (by simp (disch := omega) only [go_sem, w64, wU] <;> exact rfl) ?_
  refine AW.cond (by simp (maxSteps := 1000000) only [go_sem] <;> exact rfl) (fun hc1 => ?_) (fun hc1 => ?_)
  · try simp only [decide_eq_true_eq, decide_eq_false_iff_not, Bool.or_eq_true, Bool.or_eq_false_iff, Bool.and_eq_true, Bool.and_eq_false_imp, Bool.not_eq_true', Bool.not_eq_false'] at hc1
    refine AW.regR rfl (by simp (maxSteps := 1000000) only [go_sem] <;> exact rfl) (by simp (disch := omega) only [go_sem, w64, wU] <;> exact rfl) ?_
    refine retK.fin rfl (by simp (maxSteps := 1000000) only [go_sem] <;> exact rfl) (by simp (maxSteps := 1000000) only [go_sem] <;> exact rfl) ?_
    have ho : okF vars l = false := by simp [okF, hc1]
    refine Sub.tup ⟨?_, ?_, Sub.refl _, trivial⟩
    · simp only [mF, ho, bools]; exact Sub.nil0 0 1 true
    · rw [ho]; exact Sub.refl _
  · try simp only [decide_eq_true_eq, decide_eq_false_iff_not, Bool.or_eq_true, Bool.or_eq_false_iff, Bool.and_eq_true, Bool.and_eq_false_imp, Bool.not_eq_true', Bool.not_eq_false'] at hc1
    refine AW.skip ?_
    show AW _ _ _ _ _
    refine AW.regS rfl ?_
    refine ARN.run1 (by simp (maxSteps := 1000000) only [go_sem] <;> exact rfl) ?_
    refine ARN.pcall (fun hp => c134 vars l (2 ^ vars.toNat) (may_rng hc1) rfl hl) rfl (by simp (maxSteps := 1000000) only [go_sem] <;> exact rfl) (by simp only [go_sem]) (by simp (maxSteps := 1000000) only [go_sem] <;> exact rfl) ?_
    refine ARN.run1 (by simp (maxSteps := 1000000) only [go_sem] <;> exact rfl) ?_
    refine ARN.fin (by simp (disch := omega) only [go_sem, w64, wU] <;> exact rfl) ?_
    refine AW.seq ?_
    refine AW.regR rfl (by simp (maxSteps := 1000000) only [go_sem] <;> exact rfl) (by simp (disch := omega) only [go_sem, w64, wU] <;> exact rfl) ?_
    refine AW.cond (by simp (maxSteps := 1000000) only [go_sem] <;> exact rfl) (fun hc2 => ?_) (fun hc2 => ?_)
    · try simp only [decide_eq_true_eq, decide_eq_false_iff_not, Bool.or_eq_true, Bool.or_eq_false_iff, Bool.and_eq_true, Bool.and_eq_false_imp, Bool.not_eq_true', Bool.not_eq_false'] at hc2
      refine AW.regR rfl (by simp (maxSteps := 1000000) only [go_sem] <;> exact rfl) (by simp (disch := omega) only [go_sem, w64, wU] <;> exact rfl) ?_
      refine retK.fin rfl (by simp (maxSteps := 1000000) only [go_sem] <;> exact rfl) (by simp (maxSteps := 1000000) only [go_sem] <;> exact rfl) ?_
      have ho : okF vars l = false := by simp [okF, hc2]
      rw [hc1]
      refine Sub.tup ⟨?_, ?_, Sub.refl _, trivial⟩
      · simp only [mF, ho, bools]; exact Sub.nil0 0 1 true
      · rw [ho]; exact Sub.refl _
    · try simp only [decide_eq_true_eq, decide_eq_false_iff_not, Bool.or_eq_true, Bool.or_eq_false_iff, Bool.and_eq_true, Bool.and_eq_false_imp, Bool.not_eq_true', Bool.not_eq_false'] at hc2
      refine AW.skip ?_
      show AW _ _ _ _ _
      refine AW.regS rfl ?_
      refine ARN.run1 (by simp (maxSteps := 1000000) only [go_sem] <;> exact rfl) ?_
      refine ARN.pcall (fun hp => c137 vars (fst vars.toNat l (2 ^ vars.toNat)) (may_rng hc1) (by have := fst_rng vars.toNat l (2 ^ vars.toNat); have := pow_le (may_rng hc1).2; omega)) rfl (by simp (maxSteps := 1000000) only [go_sem] <;> exact rfl) (by simp only [go_sem]) (by simp (maxSteps := 1000000) only [go_sem] <;> exact rfl) ?_
      refine ARN.run1 (by simp (maxSteps := 1000000) only [go_sem] <;> exact rfl) ?_
      refine ARN.fin (by simp (disch := omega) only [go_sem, w64, wU] <;> exact rfl) ?_
      refine retK.fin rfl (by simp (maxSteps := 1000000) only [go_sem] <;> exact rfl) (by simp (maxSteps := 1000000) only [go_sem] <;> exact rfl) (.of ?_)
      have ho : okF vars l = true := by simp [okF, hc1]; omega
      simp only [mF, ho, hc1, if_true]
end Go.Ab.Try
