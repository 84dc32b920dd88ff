/- Where a run may go. -/
import Derived.Test.YtlgfbiepbneihaaLW
import Derived.Test.YtlgfbiepbneihaaIsG
namespace Go.Ab.Try
open Go.Proofs Go.Ab
set_option linter.unusedVariables false
set_option linter.unusedSimpArgs false
set_option linter.unnecessarySimpa false
set_option maxRecDepth 100000
theorem c28 (l : List Int) (f : Bool) (x : Int) (hl : (l.length : Int) ≤ 9223372036854775807) : PC Try.prog 28 [.lst f 1 (l.map nR), .int .i64 x] (.bool (decide (x ∈ l))) := by
  refine PC.start 18 Try.call28 Try.func28 rfl Try.ntmps28 Try.results28 (by simp only [go_sem]; exact rfl) fun z hz => ?_
  refine AW.regR rfl (by simp (maxSteps := 1000000) only [go_sem] <;> exact rfl) (by first | (simp (disch := omega) only [go_sem, w64, wU] <;> exact rfl) | exact rfl) ?_
  refine AW.seq ?_
  refine AW.regR rfl (by simp (maxSteps := 1000000) only [go_sem] <;> exact rfl) (by first | (simp (disch := omega) only [go_sem, w64, wU] <;> exact rfl) | exact rfl) ?_
  refine AW.block ?_
  refine AW.loopVh (α := (Int)) (fun (i : (Int)) => [(5, .pv (.int .i64 i))]) (fun (i : (Int)) => (0 ≤ i) ∧ (i ≤ (l.length : Int)) ∧ (∀ j : Nat, (j : Int) < i → ¬ l.getD j 0 = x)) (fun (i : (Int)) => ((l.length : Int) - i).toNat) 0 ?_ ?_ ?_
  · exact ⟨by omega, by omega, fun j hj => by omega⟩
  · refine Wk.sub ?_
    simp (maxSteps := 1000000) (disch := omega) only [go_sem, w64, wU]
  · rintro i hF _ ht
    simp only [updT, go_sem] at ht
    subst ht
    obtain ⟨h1, h2, h3⟩ := hF
    refine AW.seq ?_
    refine AW.regR rfl (by simp (maxSteps := 1000000) only [go_sem] <;> exact rfl) (by first | (simp (disch := omega) only [go_sem, w64, wU] <;> exact rfl) | exact rfl) ?_
    refine AW.cond (by simp (maxSteps := 1000000) only [go_sem] <;> exact rfl) (fun hc1 => ?_) (fun hc1 => ?_)
    · try simp only [decide_eq_true_eq, decide_eq_false_iff_not, Bool.or_eq_true, Bool.or_eq_false_iff, Bool.and_eq_true, Bool.and_eq_false_imp, Bool.not_eq_true', Bool.not_eq_false'] at hc1
      have hr : (l.map nR)[i.toNat]? = some [.int .i64 (l.getD i.toNat 0)] := n_at ⟨h1, hc1⟩
      have g1 : 0 ≤ i := h1
      have g2 : i < (l.length : Int) := hc1
      refine AW.skip ?_
      show AW _ _ _ _ _
      refine AW.seq ?_
      refine AW.block ?_
      refine AW.regR rfl (by simp (maxSteps := 1000000) only [go_sem, hr, g1, g2] <;> exact rfl) (by first | (simp (disch := omega) only [go_sem, w64, wU, hr, g1, g2] <;> exact rfl) | exact rfl) ?_
      refine AW.cond (by simp (maxSteps := 1000000) only [go_sem, hr, g1, g2] <;> exact rfl) (fun hc2 => ?_) (fun hc2 => ?_)
      · try simp only [decide_eq_true_eq, decide_eq_false_iff_not, Bool.or_eq_true, Bool.or_eq_false_iff, Bool.and_eq_true, Bool.and_eq_false_imp, Bool.not_eq_true', Bool.not_eq_false'] at hc2
        refine AW.regR rfl (by simp (maxSteps := 1000000) only [go_sem, hr, g1, g2] <;> exact rfl) (by first | (simp (disch := omega) only [go_sem, w64, wU, hr, g1, g2] <;> exact rfl) | exact rfl) ?_
        refine retK.fin rfl (by simp (maxSteps := 1000000) only [go_sem, hr, g1, g2] <;> exact rfl) (by simp (maxSteps := 1000000) only [go_sem, hr, g1, g2] <;> exact rfl) (.of ?_)
        have : x ∈ l := by rw [← hc2]; exact getD_mem (by omega)
        simp [this]
      · try simp only [decide_eq_true_eq, decide_eq_false_iff_not, Bool.or_eq_true, Bool.or_eq_false_iff, Bool.and_eq_true, Bool.and_eq_false_imp, Bool.not_eq_true', Bool.not_eq_false'] at hc2
        refine AW.skip ?_
        show AW _ _ _ _ _
        refine AW.regR1 rfl (by simp (maxSteps := 1000000) only [go_sem, hr, g1, g2] <;> exact rfl) (by first | (simp (disch := omega) only [go_sem, w64, wU, hr, g1, g2] <;> exact rfl) | exact rfl) ?_
        refine ⟨(i + 1), ?_, ?_, ?_⟩
        · (try dsimp only); omega
        · exact ⟨by omega, by omega, fun j hj => if e : (j : Int) < i then h3 j e else by (have hji : j = i.toNat := by omega); subst hji; exact hc2⟩
        · refine Wk.sub ?_
          simp (maxSteps := 1000000) (disch := omega) only [go_sem, w64, wU, hr, g1, g2]
    · try simp only [decide_eq_true_eq, decide_eq_false_iff_not, Bool.or_eq_true, Bool.or_eq_false_iff, Bool.and_eq_true, Bool.and_eq_false_imp, Bool.not_eq_true', Bool.not_eq_false'] at hc1
      refine AW.exit ?_
      show AW _ _ _ _ _
      refine AW.regR rfl (by simp (maxSteps := 1000000) only [go_sem] <;> exact rfl) (by first | (simp (disch := omega) only [go_sem, w64, wU] <;> exact rfl) | exact rfl) ?_
      refine retK.fin rfl (by simp (maxSteps := 1000000) only [go_sem] <;> exact rfl) (by simp (maxSteps := 1000000) only [go_sem] <;> exact rfl) (.of ?_)
      have : x ∉ l := fun hm => by { obtain ⟨j, hj, e⟩ := List.getElem_of_mem hm; exact h3 j (by omega) (by rw [List.getD_eq_getElem?_getD, List.getElem?_eq_getElem hj]; exact e) }
      simp [this]
theorem has0 (x : Int) : PC Try.prog 28 [.lst true 0 [], .int .i64 x] (.bool false) := by
  have := (c28 [] false x (by decide)).arg (ps := [.lst true 0 [], .int .i64 x]) ⟨Sub.nil0 0 1 true, Sub.refl _, trivial⟩
  simpa using this
theorem has1 (x y : Int) : PC Try.prog 28 [.lst false 1 [[.int .i64 y]], .int .i64 x] (.bool (decide (x = y))) := by
  have := (c28 [y] false x (by simp))
  simpa [nR] using this
theorem c52e (x y : Int) (h : x = y) : PC Try.prog 52 [.lst true 1 [[.int .i64 x], [.int .i64 y]]] (.lst false 1 ((sort2 x y).map nR)) := by
  refine PC.start 56 Try.call52 Try.func52 rfl Try.ntmps52 Try.results52 (by simp only [go_sem]; exact rfl) fun z hz => ?_
  refine AW.regR rfl (by simp (maxSteps := 1000000) only [go_sem, h] <;> exact rfl) (by first | (simp (disch := omega) only [go_sem, w64, wU, h] <;> exact rfl) | exact rfl) ?_
  refine AW.regR rfl (by simp (maxSteps := 1000000) only [go_sem, h] <;> exact rfl) (by first | (simp (disch := omega) only [go_sem, w64, wU, h] <;> exact rfl) | exact rfl) ?_
  refine AW.seq ?_
  refine AW.regR rfl (by simp (maxSteps := 1000000) only [go_sem, h] <;> exact rfl) (by first | (simp (disch := omega) only [go_sem, w64, wU, h] <;> exact rfl) | exact rfl) ?_
  refine AW.block ?_
  refine AW.rounds 3 ?_
  refine ARounds.mk ?_
  refine AW.seq ?_
  refine AW.regR rfl (by simp (maxSteps := 1000000) only [go_sem, h] <;> exact rfl) (by first | (simp (disch := omega) only [go_sem, w64, wU, h] <;> exact rfl) | exact rfl) ?_
  refine AW.condT (by simp (maxSteps := 1000000) only [go_sem, h] <;> exact rfl) ?_
  refine AW.skip ?_
  show AW _ _ _ _ _
  refine AW.seq ?_
  refine AW.block ?_
  refine AW.seq ?_
  refine AW.regS rfl ?_
  refine ARN.run1 (by simp (maxSteps := 1000000) only [go_sem, h] <;> exact rfl) ?_
  refine ARN.pcall (fun hp => has0 y) rfl (by simp (maxSteps := 1000000) only [go_sem, h] <;> exact rfl) (by simp only [go_sem]) (by simp (maxSteps := 1000000) only [go_sem, h] <;> exact rfl) ?_
  refine ARN.fin (by first | (simp (disch := omega) only [go_sem, w64, wU, h] <;> exact rfl) | exact rfl) ?_
  refine AW.condF (by simp (maxSteps := 1000000) only [go_sem, h] <;> exact rfl) ?_
  refine AW.skip ?_
  show AW _ _ _ _ _
  refine AW.regR rfl (by simp (maxSteps := 1000000) only [go_sem, h] <;> exact rfl) (by first | (simp (disch := omega) only [go_sem, w64, wU, h] <;> exact rfl) | exact rfl) ?_
  refine AW.seq ?_
  refine AW.block ?_
  refine AW.rounds 1 ?_
  refine ARounds.mk ?_
  refine AW.seq ?_
  refine AW.regDS follows (by kernel_rfl) ?_
  refine ARE.runK 6 (by simp (maxSteps := 1000000) only [go_sem, h] <;> exact rfl) ?_
  refine ARE.off (by simp (maxSteps := 1000000) only [go_sem, h] <;> exact rfl) (by simp (maxSteps := 1000000) only [go_sem, h] <;> exact rfl) (by simp (maxSteps := 1000000) only [go_sem, h] <;> exact rfl) (by simp (maxSteps := 1000000) only [go_sem, h] <;> exact rfl) ?_
  refine ARE.off (by simp (maxSteps := 1000000) only [go_sem, h] <;> exact rfl) (by simp (maxSteps := 1000000) only [go_sem, h] <;> exact rfl) (by simp (maxSteps := 1000000) only [go_sem, h] <;> exact rfl) (by simp (maxSteps := 1000000) only [go_sem, h] <;> exact rfl) ?_
  refine ARE.runK 4 (by simp (maxSteps := 1000000) only [go_sem, h] <;> exact rfl) ?_
  refine ARE.off (by simp (maxSteps := 1000000) only [go_sem, h] <;> exact rfl) (by simp (maxSteps := 1000000) only [go_sem, h] <;> exact rfl) (by simp (maxSteps := 1000000) only [go_sem, h] <;> exact rfl) (by simp (maxSteps := 1000000) only [go_sem, h] <;> exact rfl) ?_
  refine ARE.run1 (by simp (maxSteps := 1000000) only [go_sem, h] <;> exact rfl) ?_
  refine ARE.fin [0, 1, 3, 7, 7, 23, 63, 127, 7, 7, 775, 1799, 4095, 8191] _ (by kernel_rfl) (by simp (maxSteps := 1000000) only [go_sem, h] <;> exact rfl) (by kernel_rfl) (by first | (simp (disch := omega) only [go_sem, w64, wU, h] <;> exact rfl) | exact rfl) ?_
  refine AW.condF (by simp (maxSteps := 1000000) only [go_sem, h] <;> exact rfl) ?_
  refine AW.exit ?_
  show AW _ _ _ _ _
  refine AW.regR rfl (by simp (maxSteps := 1000000) only [go_sem, h] <;> exact rfl) (by first | (simp (disch := omega) only [go_sem, w64, wU, h] <;> exact rfl) | exact rfl) ?_
  refine AW.regL ?_
  refine AWL.runG (by simp (maxSteps := 1000000) only [go_sem, h] <;> exact rfl) ?_
  first | refine AWL.cut0 (by simp (maxSteps := 1000000) only [go_sem, h] <;> exact rfl) rfl (by simp (maxSteps := 1000000) only [go_sem, h] <;> exact rfl) (by decide) (by simp (maxSteps := 1000000) only [go_sem, h] <;> exact rfl) (by simp (maxSteps := 1000000) only [go_sem, h] <;> exact rfl) (by simp (maxSteps := 1000000) only [go_sem, h] <;> exact rfl) (by simp (maxSteps := 1000000) only [go_sem, h] <;> exact rfl) ?_ | refine AWL.runGP 1 rfl rfl (by simp (maxSteps := 1000000) only [go_sem, h] <;> exact rfl) ?_
  refine AWL.runG (by simp (maxSteps := 1000000) only [go_sem, h] <;> exact rfl) ?_
  refine AWL.fin (by first | (simp (disch := omega) only [go_sem, w64, wU, h] <;> exact rfl) | exact rfl) ?_
  refine AW.regR rfl (by simp (maxSteps := 1000000) only [go_sem, h] <;> exact rfl) (by first | (simp (disch := omega) only [go_sem, w64, wU, h] <;> exact rfl) | exact rfl) ?_
  refine AW.regL ?_
  refine AWL.runG (by simp (maxSteps := 1000000) only [go_sem, h] <;> exact rfl) ?_
  first | refine AWL.cut0 (by simp (maxSteps := 1000000) only [go_sem, h] <;> exact rfl) rfl (by simp (maxSteps := 1000000) only [go_sem, h] <;> exact rfl) (by decide) (by simp (maxSteps := 1000000) only [go_sem, h] <;> exact rfl) (by simp (maxSteps := 1000000) only [go_sem, h] <;> exact rfl) (by simp (maxSteps := 1000000) only [go_sem, h] <;> exact rfl) (by simp (maxSteps := 1000000) only [go_sem, h] <;> exact rfl) ?_ | refine AWL.runGP 1 rfl rfl (by simp (maxSteps := 1000000) only [go_sem, h] <;> exact rfl) ?_
  refine AWL.runG (by simp (maxSteps := 1000000) only [go_sem, h] <;> exact rfl) ?_
  refine AWL.fin (by first | (simp (disch := omega) only [go_sem, w64, wU, h] <;> exact rfl) | exact rfl) ?_
  refine AW.regR1 rfl (by simp (maxSteps := 1000000) only [go_sem, h] <;> exact rfl) (by first | (simp (disch := omega) only [go_sem, w64, wU, h] <;> exact rfl) | exact rfl) ?_
  show AW _ _ _ _ _
  refine AW.regR1 rfl (by simp (maxSteps := 1000000) only [go_sem, h] <;> exact rfl) (by first | (simp (disch := omega) only [go_sem, w64, wU, h] <;> exact rfl) | exact rfl) ?_
  show ARounds _ _ _ _ _ _
  refine ARounds.mk ?_
  refine AW.seq ?_
  refine AW.regR rfl (by simp (maxSteps := 1000000) only [go_sem, h] <;> exact rfl) (by first | (simp (disch := omega) only [go_sem, w64, wU, h] <;> exact rfl) | exact rfl) ?_
  refine AW.condT (by simp (maxSteps := 1000000) only [go_sem, h] <;> exact rfl) ?_
  refine AW.skip ?_
  show AW _ _ _ _ _
  refine AW.seq ?_
  refine AW.block ?_
  refine AW.seq ?_
  refine AW.regS rfl ?_
  refine ARN.run1 (by simp (maxSteps := 1000000) only [go_sem, h] <;> exact rfl) ?_
  refine ARN.pcallB (fun hp => has1 y y) rfl rfl (by simp (maxSteps := 1000000) only [go_sem, h] <;> exact rfl) (by simp only [go_sem]) (by simp (maxSteps := 1000000) only [go_sem, h] <;> exact rfl) ?_
  refine ARN.fin (by first | (simp (disch := omega) only [go_sem, w64, wU, h] <;> exact rfl) | exact rfl) ?_
  refine AW.condT (by simp (maxSteps := 1000000) only [go_sem, h] <;> exact rfl) ?_
  refine AW.exit ?_
  show AW _ _ _ _ _
  refine AW.regR1 rfl (by simp (maxSteps := 1000000) only [go_sem, h] <;> exact rfl) (by first | (simp (disch := omega) only [go_sem, w64, wU, h] <;> exact rfl) | exact rfl) ?_
  show ARounds _ _ _ _ _ _
  refine ARounds.mk ?_
  refine AW.seq ?_
  refine AW.regR rfl (by simp (maxSteps := 1000000) only [go_sem, h] <;> exact rfl) (by first | (simp (disch := omega) only [go_sem, w64, wU, h] <;> exact rfl) | exact rfl) ?_
  refine AW.condF (by simp (maxSteps := 1000000) only [go_sem, h] <;> exact rfl) ?_
  refine AW.exit ?_
  show AW _ _ _ _ _
  refine AW.regR rfl (by simp (maxSteps := 1000000) only [go_sem, h] <;> exact rfl) (by first | (simp (disch := omega) only [go_sem, w64, wU, h] <;> exact rfl) | exact rfl) ?_
  refine retK.fin rfl (by simp (maxSteps := 1000000) only [go_sem, h] <;> exact rfl) (by simp (maxSteps := 1000000) only [go_sem, h] <;> exact rfl) (.of ?_)
  simp [sort2, nR, h]
theorem c52l (x y : Int) (h : x < y) : PC Try.prog 52 [.lst true 1 [[.int .i64 x], [.int .i64 y]]] (.lst false 1 ((sort2 x y).map nR)) := by
  refine PC.start 56 Try.call52 Try.func52 rfl Try.ntmps52 Try.results52 (by simp only [go_sem]; exact rfl) fun z hz => ?_
  have hn1 : ¬ x = y := by omega
  have hn2 : ¬ y = x := by omega
  have hn3 : ¬ y < x := by omega
  refine AW.regR rfl (by simp (maxSteps := 1000000) only [go_sem, hn1, hn2, hn3] <;> exact rfl) (by first | (simp (disch := omega) only [go_sem, w64, wU, hn1, hn2, hn3] <;> exact rfl) | exact rfl) ?_
  refine AW.regR rfl (by simp (maxSteps := 1000000) only [go_sem, hn1, hn2, hn3] <;> exact rfl) (by first | (simp (disch := omega) only [go_sem, w64, wU, hn1, hn2, hn3] <;> exact rfl) | exact rfl) ?_
  refine AW.seq ?_
  refine AW.regR rfl (by simp (maxSteps := 1000000) only [go_sem, hn1, hn2, hn3] <;> exact rfl) (by first | (simp (disch := omega) only [go_sem, w64, wU, hn1, hn2, hn3] <;> exact rfl) | exact rfl) ?_
  refine AW.block ?_
  refine AW.rounds 3 ?_
  refine ARounds.mk ?_
  refine AW.seq ?_
  refine AW.regR rfl (by simp (maxSteps := 1000000) only [go_sem, hn1, hn2, hn3] <;> exact rfl) (by first | (simp (disch := omega) only [go_sem, w64, wU, hn1, hn2, hn3] <;> exact rfl) | exact rfl) ?_
  refine AW.condT (by simp (maxSteps := 1000000) only [go_sem, hn1, hn2, hn3] <;> exact rfl) ?_
  refine AW.skip ?_
  show AW _ _ _ _ _
  refine AW.seq ?_
  refine AW.block ?_
  refine AW.seq ?_
  refine AW.regS rfl ?_
  refine ARN.run1 (by simp (maxSteps := 1000000) only [go_sem, hn1, hn2, hn3] <;> exact rfl) ?_
  refine ARN.pcall (fun hp => has0 x) rfl (by simp (maxSteps := 1000000) only [go_sem, hn1, hn2, hn3] <;> exact rfl) (by simp only [go_sem]) (by simp (maxSteps := 1000000) only [go_sem, hn1, hn2, hn3] <;> exact rfl) ?_
  refine ARN.fin (by first | (simp (disch := omega) only [go_sem, w64, wU, hn1, hn2, hn3] <;> exact rfl) | exact rfl) ?_
  refine AW.condF (by simp (maxSteps := 1000000) only [go_sem, hn1, hn2, hn3] <;> exact rfl) ?_
  refine AW.skip ?_
  show AW _ _ _ _ _
  refine AW.regR rfl (by simp (maxSteps := 1000000) only [go_sem, hn1, hn2, hn3] <;> exact rfl) (by first | (simp (disch := omega) only [go_sem, w64, wU, hn1, hn2, hn3] <;> exact rfl) | exact rfl) ?_
  refine AW.seq ?_
  refine AW.block ?_
  refine AW.rounds 1 ?_
  refine ARounds.mk ?_
  refine AW.seq ?_
  refine AW.regDS follows (by kernel_rfl) ?_
  refine ARE.runK 6 (by simp (maxSteps := 1000000) only [go_sem, hn1, hn2, hn3] <;> exact rfl) ?_
  refine ARE.off (by simp (maxSteps := 1000000) only [go_sem, hn1, hn2, hn3] <;> exact rfl) (by simp (maxSteps := 1000000) only [go_sem, hn1, hn2, hn3] <;> exact rfl) (by simp (maxSteps := 1000000) only [go_sem, hn1, hn2, hn3] <;> exact rfl) (by simp (maxSteps := 1000000) only [go_sem, hn1, hn2, hn3] <;> exact rfl) ?_
  refine ARE.off (by simp (maxSteps := 1000000) only [go_sem, hn1, hn2, hn3] <;> exact rfl) (by simp (maxSteps := 1000000) only [go_sem, hn1, hn2, hn3] <;> exact rfl) (by simp (maxSteps := 1000000) only [go_sem, hn1, hn2, hn3] <;> exact rfl) (by simp (maxSteps := 1000000) only [go_sem, hn1, hn2, hn3] <;> exact rfl) ?_
  refine ARE.runK 4 (by simp (maxSteps := 1000000) only [go_sem, hn1, hn2, hn3] <;> exact rfl) ?_
  refine ARE.off (by simp (maxSteps := 1000000) only [go_sem, hn1, hn2, hn3] <;> exact rfl) (by simp (maxSteps := 1000000) only [go_sem, hn1, hn2, hn3] <;> exact rfl) (by simp (maxSteps := 1000000) only [go_sem, hn1, hn2, hn3] <;> exact rfl) (by simp (maxSteps := 1000000) only [go_sem, hn1, hn2, hn3] <;> exact rfl) ?_
  refine ARE.run1 (by simp (maxSteps := 1000000) only [go_sem, hn1, hn2, hn3] <;> exact rfl) ?_
  refine ARE.fin [0, 1, 3, 7, 7, 23, 63, 127, 7, 7, 775, 1799, 4095, 8191] _ (by kernel_rfl) (by simp (maxSteps := 1000000) only [go_sem, hn1, hn2, hn3] <;> exact rfl) (by kernel_rfl) (by first | (simp (disch := omega) only [go_sem, w64, wU, hn1, hn2, hn3] <;> exact rfl) | exact rfl) ?_
  refine AW.condF (by simp (maxSteps := 1000000) only [go_sem, hn1, hn2, hn3] <;> exact rfl) ?_
  refine AW.exit ?_
  show AW _ _ _ _ _
  refine AW.regR rfl (by simp (maxSteps := 1000000) only [go_sem, hn1, hn2, hn3] <;> exact rfl) (by first | (simp (disch := omega) only [go_sem, w64, wU, hn1, hn2, hn3] <;> exact rfl) | exact rfl) ?_
  refine AW.regL ?_
  refine AWL.runG (by simp (maxSteps := 1000000) only [go_sem, hn1, hn2, hn3] <;> exact rfl) ?_
  first | refine AWL.cut0 (by simp (maxSteps := 1000000) only [go_sem, hn1, hn2, hn3] <;> exact rfl) rfl (by simp (maxSteps := 1000000) only [go_sem, hn1, hn2, hn3] <;> exact rfl) (by decide) (by simp (maxSteps := 1000000) only [go_sem, hn1, hn2, hn3] <;> exact rfl) (by simp (maxSteps := 1000000) only [go_sem, hn1, hn2, hn3] <;> exact rfl) (by simp (maxSteps := 1000000) only [go_sem, hn1, hn2, hn3] <;> exact rfl) (by simp (maxSteps := 1000000) only [go_sem, hn1, hn2, hn3] <;> exact rfl) ?_ | refine AWL.runGP 1 rfl rfl (by simp (maxSteps := 1000000) only [go_sem, hn1, hn2, hn3] <;> exact rfl) ?_
  refine AWL.runG (by simp (maxSteps := 1000000) only [go_sem, hn1, hn2, hn3] <;> exact rfl) ?_
  refine AWL.fin (by first | (simp (disch := omega) only [go_sem, w64, wU, hn1, hn2, hn3] <;> exact rfl) | exact rfl) ?_
  refine AW.regR rfl (by simp (maxSteps := 1000000) only [go_sem, hn1, hn2, hn3] <;> exact rfl) (by first | (simp (disch := omega) only [go_sem, w64, wU, hn1, hn2, hn3] <;> exact rfl) | exact rfl) ?_
  refine AW.regL ?_
  refine AWL.runG (by simp (maxSteps := 1000000) only [go_sem, hn1, hn2, hn3] <;> exact rfl) ?_
  first | refine AWL.cut0 (by simp (maxSteps := 1000000) only [go_sem, hn1, hn2, hn3] <;> exact rfl) rfl (by simp (maxSteps := 1000000) only [go_sem, hn1, hn2, hn3] <;> exact rfl) (by decide) (by simp (maxSteps := 1000000) only [go_sem, hn1, hn2, hn3] <;> exact rfl) (by simp (maxSteps := 1000000) only [go_sem, hn1, hn2, hn3] <;> exact rfl) (by simp (maxSteps := 1000000) only [go_sem, hn1, hn2, hn3] <;> exact rfl) (by simp (maxSteps := 1000000) only [go_sem, hn1, hn2, hn3] <;> exact rfl) ?_ | refine AWL.runGP 1 rfl rfl (by simp (maxSteps := 1000000) only [go_sem, hn1, hn2, hn3] <;> exact rfl) ?_
  refine AWL.runG (by simp (maxSteps := 1000000) only [go_sem, hn1, hn2, hn3] <;> exact rfl) ?_
  refine AWL.fin (by first | (simp (disch := omega) only [go_sem, w64, wU, hn1, hn2, hn3] <;> exact rfl) | exact rfl) ?_
  refine AW.regR1 rfl (by simp (maxSteps := 1000000) only [go_sem, hn1, hn2, hn3] <;> exact rfl) (by first | (simp (disch := omega) only [go_sem, w64, wU, hn1, hn2, hn3] <;> exact rfl) | exact rfl) ?_
  show AW _ _ _ _ _
  refine AW.regR1 rfl (by simp (maxSteps := 1000000) only [go_sem, hn1, hn2, hn3] <;> exact rfl) (by first | (simp (disch := omega) only [go_sem, w64, wU, hn1, hn2, hn3] <;> exact rfl) | exact rfl) ?_
  show ARounds _ _ _ _ _ _
  refine ARounds.mk ?_
  refine AW.seq ?_
  refine AW.regR rfl (by simp (maxSteps := 1000000) only [go_sem, hn1, hn2, hn3] <;> exact rfl) (by first | (simp (disch := omega) only [go_sem, w64, wU, hn1, hn2, hn3] <;> exact rfl) | exact rfl) ?_
  refine AW.condT (by simp (maxSteps := 1000000) only [go_sem, hn1, hn2, hn3] <;> exact rfl) ?_
  refine AW.skip ?_
  show AW _ _ _ _ _
  refine AW.seq ?_
  refine AW.block ?_
  refine AW.seq ?_
  refine AW.regS rfl ?_
  refine ARN.run1 (by simp (maxSteps := 1000000) only [go_sem, hn1, hn2, hn3] <;> exact rfl) ?_
  refine ARN.pcallB (fun hp => has1 y x) rfl rfl (by simp (maxSteps := 1000000) only [go_sem, hn1, hn2, hn3] <;> exact rfl) (by simp only [go_sem]) (by simp (maxSteps := 1000000) only [go_sem, hn1, hn2, hn3] <;> exact rfl) ?_
  refine ARN.fin (by first | (simp (disch := omega) only [go_sem, w64, wU, hn1, hn2, hn3] <;> exact rfl) | exact rfl) ?_
  refine AW.condF (by simp (maxSteps := 1000000) only [go_sem, hn1, hn2, hn3] <;> exact rfl) ?_
  refine AW.skip ?_
  show AW _ _ _ _ _
  refine AW.regR rfl (by simp (maxSteps := 1000000) only [go_sem, hn1, hn2, hn3] <;> exact rfl) (by first | (simp (disch := omega) only [go_sem, w64, wU, hn1, hn2, hn3] <;> exact rfl) | exact rfl) ?_
  refine AW.seq ?_
  refine AW.block ?_
  refine AW.rounds 1 ?_
  refine ARounds.mk ?_
  refine AW.seq ?_
  refine AW.regDS follows (by kernel_rfl) ?_
  refine ARE.run1 (by simp (maxSteps := 1000000) only [go_sem, hn1, hn2, hn3] <;> exact rfl) ?_
  refine ARE.fin [0, 1, 3, 7, 7, 23, 63, 127, 7, 7, 775, 1799, 4095, 8191] _ (by kernel_rfl) (by simp (maxSteps := 1000000) only [go_sem, hn1, hn2, hn3] <;> exact rfl) (by kernel_rfl) (by first | (simp (disch := omega) only [go_sem, w64, wU, hn1, hn2, hn3] <;> exact rfl) | exact rfl) ?_
  refine AW.condF (by simp (maxSteps := 1000000) only [go_sem, hn1, hn2, hn3] <;> exact rfl) ?_
  refine AW.exit ?_
  show AW _ _ _ _ _
  refine AW.regR rfl (by simp (maxSteps := 1000000) only [go_sem, hn1, hn2, hn3] <;> exact rfl) (by first | (simp (disch := omega) only [go_sem, w64, wU, hn1, hn2, hn3] <;> exact rfl) | exact rfl) ?_
  refine AW.regL ?_
  refine AWL.runG (by simp (maxSteps := 1000000) only [go_sem, hn1, hn2, hn3] <;> exact rfl) ?_
  first | refine AWL.cut0 (by simp (maxSteps := 1000000) only [go_sem, hn1, hn2, hn3] <;> exact rfl) rfl (by simp (maxSteps := 1000000) only [go_sem, hn1, hn2, hn3] <;> exact rfl) (by decide) (by simp (maxSteps := 1000000) only [go_sem, hn1, hn2, hn3] <;> exact rfl) (by simp (maxSteps := 1000000) only [go_sem, hn1, hn2, hn3] <;> exact rfl) (by simp (maxSteps := 1000000) only [go_sem, hn1, hn2, hn3] <;> exact rfl) (by simp (maxSteps := 1000000) only [go_sem, hn1, hn2, hn3] <;> exact rfl) ?_ | refine AWL.runGP 1 rfl rfl (by simp (maxSteps := 1000000) only [go_sem, hn1, hn2, hn3] <;> exact rfl) ?_
  refine AWL.runG (by simp (maxSteps := 1000000) only [go_sem, hn1, hn2, hn3] <;> exact rfl) ?_
  refine AWL.fin (by first | (simp (disch := omega) only [go_sem, w64, wU, hn1, hn2, hn3] <;> exact rfl) | exact rfl) ?_
  refine AW.regR rfl (by simp (maxSteps := 1000000) only [go_sem, hn1, hn2, hn3] <;> exact rfl) (by first | (simp (disch := omega) only [go_sem, w64, wU, hn1, hn2, hn3] <;> exact rfl) | exact rfl) ?_
  refine AW.regL ?_
  refine AWL.runG (by simp (maxSteps := 1000000) only [go_sem, hn1, hn2, hn3] <;> exact rfl) ?_
  first | refine AWL.cut0 (by simp (maxSteps := 1000000) only [go_sem, hn1, hn2, hn3] <;> exact rfl) rfl (by simp (maxSteps := 1000000) only [go_sem, hn1, hn2, hn3] <;> exact rfl) (by decide) (by simp (maxSteps := 1000000) only [go_sem, hn1, hn2, hn3] <;> exact rfl) (by simp (maxSteps := 1000000) only [go_sem, hn1, hn2, hn3] <;> exact rfl) (by simp (maxSteps := 1000000) only [go_sem, hn1, hn2, hn3] <;> exact rfl) (by simp (maxSteps := 1000000) only [go_sem, hn1, hn2, hn3] <;> exact rfl) ?_ | refine AWL.runGP 1 rfl rfl (by simp (maxSteps := 1000000) only [go_sem, hn1, hn2, hn3] <;> exact rfl) ?_
  refine AWL.runG (by simp (maxSteps := 1000000) only [go_sem, hn1, hn2, hn3] <;> exact rfl) ?_
  refine AWL.fin (by first | (simp (disch := omega) only [go_sem, w64, wU, hn1, hn2, hn3] <;> exact rfl) | exact rfl) ?_
  refine AW.regR1 rfl (by simp (maxSteps := 1000000) only [go_sem, hn1, hn2, hn3] <;> exact rfl) (by first | (simp (disch := omega) only [go_sem, w64, wU, hn1, hn2, hn3] <;> exact rfl) | exact rfl) ?_
  show AW _ _ _ _ _
  refine AW.regR1 rfl (by simp (maxSteps := 1000000) only [go_sem, hn1, hn2, hn3] <;> exact rfl) (by first | (simp (disch := omega) only [go_sem, w64, wU, hn1, hn2, hn3] <;> exact rfl) | exact rfl) ?_
  show ARounds _ _ _ _ _ _
  refine ARounds.mk ?_
  refine AW.seq ?_
  refine AW.regR rfl (by simp (maxSteps := 1000000) only [go_sem, hn1, hn2, hn3] <;> exact rfl) (by first | (simp (disch := omega) only [go_sem, w64, wU, hn1, hn2, hn3] <;> exact rfl) | exact rfl) ?_
  refine AW.condF (by simp (maxSteps := 1000000) only [go_sem, hn1, hn2, hn3] <;> exact rfl) ?_
  refine AW.exit ?_
  show AW _ _ _ _ _
  refine AW.regR rfl (by simp (maxSteps := 1000000) only [go_sem, hn1, hn2, hn3] <;> exact rfl) (by first | (simp (disch := omega) only [go_sem, w64, wU, hn1, hn2, hn3] <;> exact rfl) | exact rfl) ?_
  refine retK.fin rfl (by simp (maxSteps := 1000000) only [go_sem, hn1, hn2, hn3] <;> exact rfl) (by simp (maxSteps := 1000000) only [go_sem, hn1, hn2, hn3] <;> exact rfl) (.of ?_)
  simp [sort2, nR, h, hn1]
theorem c52g (x y : Int) (h : y < x) : PC Try.prog 52 [.lst true 1 [[.int .i64 x], [.int .i64 y]]] (.lst false 1 ((sort2 x y).map nR)) := by
  refine PC.start 56 Try.call52 Try.func52 rfl Try.ntmps52 Try.results52 (by simp only [go_sem]; exact rfl) fun z hz => ?_
  have hn0 : y < x := h
  have hn1 : ¬ x = y := by omega
  have hn2 : ¬ y = x := by omega
  have hn3 : ¬ x < y := by omega
  refine AW.regR rfl (by simp (maxSteps := 1000000) only [go_sem, hn0, hn1, hn2, hn3] <;> exact rfl) (by first | (simp (disch := omega) only [go_sem, w64, wU, hn0, hn1, hn2, hn3] <;> exact rfl) | exact rfl) ?_
  refine AW.regR rfl (by simp (maxSteps := 1000000) only [go_sem, hn0, hn1, hn2, hn3] <;> exact rfl) (by first | (simp (disch := omega) only [go_sem, w64, wU, hn0, hn1, hn2, hn3] <;> exact rfl) | exact rfl) ?_
  refine AW.seq ?_
  refine AW.regR rfl (by simp (maxSteps := 1000000) only [go_sem, hn0, hn1, hn2, hn3] <;> exact rfl) (by first | (simp (disch := omega) only [go_sem, w64, wU, hn0, hn1, hn2, hn3] <;> exact rfl) | exact rfl) ?_
  refine AW.block ?_
  refine AW.rounds 3 ?_
  refine ARounds.mk ?_
  refine AW.seq ?_
  refine AW.regR rfl (by simp (maxSteps := 1000000) only [go_sem, hn0, hn1, hn2, hn3] <;> exact rfl) (by first | (simp (disch := omega) only [go_sem, w64, wU, hn0, hn1, hn2, hn3] <;> exact rfl) | exact rfl) ?_
  refine AW.condT (by simp (maxSteps := 1000000) only [go_sem, hn0, hn1, hn2, hn3] <;> exact rfl) ?_
  refine AW.skip ?_
  show AW _ _ _ _ _
  refine AW.seq ?_
  refine AW.block ?_
  refine AW.seq ?_
  refine AW.regS rfl ?_
  refine ARN.run1 (by simp (maxSteps := 1000000) only [go_sem, hn0, hn1, hn2, hn3] <;> exact rfl) ?_
  refine ARN.pcall (fun hp => has0 x) rfl (by simp (maxSteps := 1000000) only [go_sem, hn0, hn1, hn2, hn3] <;> exact rfl) (by simp only [go_sem]) (by simp (maxSteps := 1000000) only [go_sem, hn0, hn1, hn2, hn3] <;> exact rfl) ?_
  refine ARN.fin (by first | (simp (disch := omega) only [go_sem, w64, wU, hn0, hn1, hn2, hn3] <;> exact rfl) | exact rfl) ?_
  refine AW.condF (by simp (maxSteps := 1000000) only [go_sem, hn0, hn1, hn2, hn3] <;> exact rfl) ?_
  refine AW.skip ?_
  show AW _ _ _ _ _
  refine AW.regR rfl (by simp (maxSteps := 1000000) only [go_sem, hn0, hn1, hn2, hn3] <;> exact rfl) (by first | (simp (disch := omega) only [go_sem, w64, wU, hn0, hn1, hn2, hn3] <;> exact rfl) | exact rfl) ?_
  refine AW.seq ?_
  refine AW.block ?_
  refine AW.rounds 1 ?_
  refine ARounds.mk ?_
  refine AW.seq ?_
  refine AW.regDS follows (by kernel_rfl) ?_
  refine ARE.runK 6 (by simp (maxSteps := 1000000) only [go_sem, hn0, hn1, hn2, hn3] <;> exact rfl) ?_
  refine ARE.off (by simp (maxSteps := 1000000) only [go_sem, hn0, hn1, hn2, hn3] <;> exact rfl) (by simp (maxSteps := 1000000) only [go_sem, hn0, hn1, hn2, hn3] <;> exact rfl) (by simp (maxSteps := 1000000) only [go_sem, hn0, hn1, hn2, hn3] <;> exact rfl) (by simp (maxSteps := 1000000) only [go_sem, hn0, hn1, hn2, hn3] <;> exact rfl) ?_
  refine ARE.off (by simp (maxSteps := 1000000) only [go_sem, hn0, hn1, hn2, hn3] <;> exact rfl) (by simp (maxSteps := 1000000) only [go_sem, hn0, hn1, hn2, hn3] <;> exact rfl) (by simp (maxSteps := 1000000) only [go_sem, hn0, hn1, hn2, hn3] <;> exact rfl) (by simp (maxSteps := 1000000) only [go_sem, hn0, hn1, hn2, hn3] <;> exact rfl) ?_
  refine ARE.runK 4 (by simp (maxSteps := 1000000) only [go_sem, hn0, hn1, hn2, hn3] <;> exact rfl) ?_
  refine ARE.off (by simp (maxSteps := 1000000) only [go_sem, hn0, hn1, hn2, hn3] <;> exact rfl) (by simp (maxSteps := 1000000) only [go_sem, hn0, hn1, hn2, hn3] <;> exact rfl) (by simp (maxSteps := 1000000) only [go_sem, hn0, hn1, hn2, hn3] <;> exact rfl) (by simp (maxSteps := 1000000) only [go_sem, hn0, hn1, hn2, hn3] <;> exact rfl) ?_
  refine ARE.run1 (by simp (maxSteps := 1000000) only [go_sem, hn0, hn1, hn2, hn3] <;> exact rfl) ?_
  refine ARE.fin [0, 1, 3, 7, 7, 23, 63, 127, 7, 7, 775, 1799, 4095, 8191] _ (by kernel_rfl) (by simp (maxSteps := 1000000) only [go_sem, hn0, hn1, hn2, hn3] <;> exact rfl) (by kernel_rfl) (by first | (simp (disch := omega) only [go_sem, w64, wU, hn0, hn1, hn2, hn3] <;> exact rfl) | exact rfl) ?_
  refine AW.condF (by simp (maxSteps := 1000000) only [go_sem, hn0, hn1, hn2, hn3] <;> exact rfl) ?_
  refine AW.exit ?_
  show AW _ _ _ _ _
  refine AW.regR rfl (by simp (maxSteps := 1000000) only [go_sem, hn0, hn1, hn2, hn3] <;> exact rfl) (by first | (simp (disch := omega) only [go_sem, w64, wU, hn0, hn1, hn2, hn3] <;> exact rfl) | exact rfl) ?_
  refine AW.regL ?_
  refine AWL.runG (by simp (maxSteps := 1000000) only [go_sem, hn0, hn1, hn2, hn3] <;> exact rfl) ?_
  first | refine AWL.cut0 (by simp (maxSteps := 1000000) only [go_sem, hn0, hn1, hn2, hn3] <;> exact rfl) rfl (by simp (maxSteps := 1000000) only [go_sem, hn0, hn1, hn2, hn3] <;> exact rfl) (by decide) (by simp (maxSteps := 1000000) only [go_sem, hn0, hn1, hn2, hn3] <;> exact rfl) (by simp (maxSteps := 1000000) only [go_sem, hn0, hn1, hn2, hn3] <;> exact rfl) (by simp (maxSteps := 1000000) only [go_sem, hn0, hn1, hn2, hn3] <;> exact rfl) (by simp (maxSteps := 1000000) only [go_sem, hn0, hn1, hn2, hn3] <;> exact rfl) ?_ | refine AWL.runGP 1 rfl rfl (by simp (maxSteps := 1000000) only [go_sem, hn0, hn1, hn2, hn3] <;> exact rfl) ?_
  refine AWL.runG (by simp (maxSteps := 1000000) only [go_sem, hn0, hn1, hn2, hn3] <;> exact rfl) ?_
  refine AWL.fin (by first | (simp (disch := omega) only [go_sem, w64, wU, hn0, hn1, hn2, hn3] <;> exact rfl) | exact rfl) ?_
  refine AW.regR rfl (by simp (maxSteps := 1000000) only [go_sem, hn0, hn1, hn2, hn3] <;> exact rfl) (by first | (simp (disch := omega) only [go_sem, w64, wU, hn0, hn1, hn2, hn3] <;> exact rfl) | exact rfl) ?_
  refine AW.regL ?_
  refine AWL.runG (by simp (maxSteps := 1000000) only [go_sem, hn0, hn1, hn2, hn3] <;> exact rfl) ?_
  first | refine AWL.cut0 (by simp (maxSteps := 1000000) only [go_sem, hn0, hn1, hn2, hn3] <;> exact rfl) rfl (by simp (maxSteps := 1000000) only [go_sem, hn0, hn1, hn2, hn3] <;> exact rfl) (by decide) (by simp (maxSteps := 1000000) only [go_sem, hn0, hn1, hn2, hn3] <;> exact rfl) (by simp (maxSteps := 1000000) only [go_sem, hn0, hn1, hn2, hn3] <;> exact rfl) (by simp (maxSteps := 1000000) only [go_sem, hn0, hn1, hn2, hn3] <;> exact rfl) (by simp (maxSteps := 1000000) only [go_sem, hn0, hn1, hn2, hn3] <;> exact rfl) ?_ | refine AWL.runGP 1 rfl rfl (by simp (maxSteps := 1000000) only [go_sem, hn0, hn1, hn2, hn3] <;> exact rfl) ?_
  refine AWL.runG (by simp (maxSteps := 1000000) only [go_sem, hn0, hn1, hn2, hn3] <;> exact rfl) ?_
  refine AWL.fin (by first | (simp (disch := omega) only [go_sem, w64, wU, hn0, hn1, hn2, hn3] <;> exact rfl) | exact rfl) ?_
  refine AW.regR1 rfl (by simp (maxSteps := 1000000) only [go_sem, hn0, hn1, hn2, hn3] <;> exact rfl) (by first | (simp (disch := omega) only [go_sem, w64, wU, hn0, hn1, hn2, hn3] <;> exact rfl) | exact rfl) ?_
  show AW _ _ _ _ _
  refine AW.regR1 rfl (by simp (maxSteps := 1000000) only [go_sem, hn0, hn1, hn2, hn3] <;> exact rfl) (by first | (simp (disch := omega) only [go_sem, w64, wU, hn0, hn1, hn2, hn3] <;> exact rfl) | exact rfl) ?_
  show ARounds _ _ _ _ _ _
  refine ARounds.mk ?_
  refine AW.seq ?_
  refine AW.regR rfl (by simp (maxSteps := 1000000) only [go_sem, hn0, hn1, hn2, hn3] <;> exact rfl) (by first | (simp (disch := omega) only [go_sem, w64, wU, hn0, hn1, hn2, hn3] <;> exact rfl) | exact rfl) ?_
  refine AW.condT (by simp (maxSteps := 1000000) only [go_sem, hn0, hn1, hn2, hn3] <;> exact rfl) ?_
  refine AW.skip ?_
  show AW _ _ _ _ _
  refine AW.seq ?_
  refine AW.block ?_
  refine AW.seq ?_
  refine AW.regS rfl ?_
  refine ARN.run1 (by simp (maxSteps := 1000000) only [go_sem, hn0, hn1, hn2, hn3] <;> exact rfl) ?_
  refine ARN.pcallB (fun hp => has1 y x) rfl rfl (by simp (maxSteps := 1000000) only [go_sem, hn0, hn1, hn2, hn3] <;> exact rfl) (by simp only [go_sem]) (by simp (maxSteps := 1000000) only [go_sem, hn0, hn1, hn2, hn3] <;> exact rfl) ?_
  refine ARN.fin (by first | (simp (disch := omega) only [go_sem, w64, wU, hn0, hn1, hn2, hn3] <;> exact rfl) | exact rfl) ?_
  refine AW.condF (by simp (maxSteps := 1000000) only [go_sem, hn0, hn1, hn2, hn3] <;> exact rfl) ?_
  refine AW.skip ?_
  show AW _ _ _ _ _
  refine AW.regR rfl (by simp (maxSteps := 1000000) only [go_sem, hn0, hn1, hn2, hn3] <;> exact rfl) (by first | (simp (disch := omega) only [go_sem, w64, wU, hn0, hn1, hn2, hn3] <;> exact rfl) | exact rfl) ?_
  refine AW.seq ?_
  refine AW.block ?_
  refine AW.rounds 2 ?_
  refine ARounds.mk ?_
  refine AW.seq ?_
  refine AW.regDS follows (by kernel_rfl) ?_
  refine ARE.run1 (by simp (maxSteps := 1000000) only [go_sem, hn0, hn1, hn2, hn3] <;> exact rfl) ?_
  refine ARE.fin [0, 1, 3, 7, 7, 23, 63, 127, 7, 7, 775, 1799, 4095, 8191] _ (by kernel_rfl) (by simp (maxSteps := 1000000) only [go_sem, hn0, hn1, hn2, hn3] <;> exact rfl) (by kernel_rfl) (by first | (simp (disch := omega) only [go_sem, w64, wU, hn0, hn1, hn2, hn3] <;> exact rfl) | exact rfl) ?_
  refine AW.condT (by simp (maxSteps := 1000000) only [go_sem, hn0, hn1, hn2, hn3] <;> exact rfl) ?_
  refine AW.skip ?_
  show AW _ _ _ _ _
  refine AW.block ?_
  refine AW.regR1 rfl (by simp (maxSteps := 1000000) only [go_sem, hn0, hn1, hn2, hn3] <;> exact rfl) (by first | (simp (disch := omega) only [go_sem, w64, wU, hn0, hn1, hn2, hn3] <;> exact rfl) | exact rfl) ?_
  show ARounds _ _ _ _ _ _
  refine ARounds.mk ?_
  refine AW.seq ?_
  refine AW.regDS follows (by kernel_rfl) ?_
  refine ARE.runK 6 (by simp (maxSteps := 1000000) only [go_sem, hn0, hn1, hn2, hn3] <;> exact rfl) ?_
  refine ARE.off (by simp (maxSteps := 1000000) only [go_sem, hn0, hn1, hn2, hn3] <;> exact rfl) (by simp (maxSteps := 1000000) only [go_sem, hn0, hn1, hn2, hn3] <;> exact rfl) (by simp (maxSteps := 1000000) only [go_sem, hn0, hn1, hn2, hn3] <;> exact rfl) (by simp (maxSteps := 1000000) only [go_sem, hn0, hn1, hn2, hn3] <;> exact rfl) ?_
  refine ARE.off (by simp (maxSteps := 1000000) only [go_sem, hn0, hn1, hn2, hn3] <;> exact rfl) (by simp (maxSteps := 1000000) only [go_sem, hn0, hn1, hn2, hn3] <;> exact rfl) (by simp (maxSteps := 1000000) only [go_sem, hn0, hn1, hn2, hn3] <;> exact rfl) (by simp (maxSteps := 1000000) only [go_sem, hn0, hn1, hn2, hn3] <;> exact rfl) ?_
  refine ARE.runK 4 (by simp (maxSteps := 1000000) only [go_sem, hn0, hn1, hn2, hn3] <;> exact rfl) ?_
  refine ARE.off (by simp (maxSteps := 1000000) only [go_sem, hn0, hn1, hn2, hn3] <;> exact rfl) (by simp (maxSteps := 1000000) only [go_sem, hn0, hn1, hn2, hn3] <;> exact rfl) (by simp (maxSteps := 1000000) only [go_sem, hn0, hn1, hn2, hn3] <;> exact rfl) (by simp (maxSteps := 1000000) only [go_sem, hn0, hn1, hn2, hn3] <;> exact rfl) ?_
  refine ARE.run1 (by simp (maxSteps := 1000000) only [go_sem, hn0, hn1, hn2, hn3] <;> exact rfl) ?_
  refine ARE.fin [0, 1, 3, 7, 7, 23, 63, 127, 7, 7, 775, 1799, 4095, 8191] _ (by kernel_rfl) (by simp (maxSteps := 1000000) only [go_sem, hn0, hn1, hn2, hn3] <;> exact rfl) (by kernel_rfl) (by first | (simp (disch := omega) only [go_sem, w64, wU, hn0, hn1, hn2, hn3] <;> exact rfl) | exact rfl) ?_
  refine AW.condF (by simp (maxSteps := 1000000) only [go_sem, hn0, hn1, hn2, hn3] <;> exact rfl) ?_
  refine AW.exit ?_
  show AW _ _ _ _ _
  refine AW.regR rfl (by simp (maxSteps := 1000000) only [go_sem, hn0, hn1, hn2, hn3] <;> exact rfl) (by first | (simp (disch := omega) only [go_sem, w64, wU, hn0, hn1, hn2, hn3] <;> exact rfl) | exact rfl) ?_
  refine AW.regL ?_
  refine AWL.runG (by simp (maxSteps := 1000000) only [go_sem, hn0, hn1, hn2, hn3] <;> exact rfl) ?_
  first | refine AWL.cut0 (by simp (maxSteps := 1000000) only [go_sem, hn0, hn1, hn2, hn3] <;> exact rfl) rfl (by simp (maxSteps := 1000000) only [go_sem, hn0, hn1, hn2, hn3] <;> exact rfl) (by decide) (by simp (maxSteps := 1000000) only [go_sem, hn0, hn1, hn2, hn3] <;> exact rfl) (by simp (maxSteps := 1000000) only [go_sem, hn0, hn1, hn2, hn3] <;> exact rfl) (by simp (maxSteps := 1000000) only [go_sem, hn0, hn1, hn2, hn3] <;> exact rfl) (by simp (maxSteps := 1000000) only [go_sem, hn0, hn1, hn2, hn3] <;> exact rfl) ?_ | refine AWL.runGP 1 rfl rfl (by simp (maxSteps := 1000000) only [go_sem, hn0, hn1, hn2, hn3] <;> exact rfl) ?_
  refine AWL.runG (by simp (maxSteps := 1000000) only [go_sem, hn0, hn1, hn2, hn3] <;> exact rfl) ?_
  refine AWL.fin (by first | (simp (disch := omega) only [go_sem, w64, wU, hn0, hn1, hn2, hn3] <;> exact rfl) | exact rfl) ?_
  refine AW.regR rfl (by simp (maxSteps := 1000000) only [go_sem, hn0, hn1, hn2, hn3] <;> exact rfl) (by first | (simp (disch := omega) only [go_sem, w64, wU, hn0, hn1, hn2, hn3] <;> exact rfl) | exact rfl) ?_
  refine AW.regL ?_
  refine AWL.runG (by simp (maxSteps := 1000000) only [go_sem, hn0, hn1, hn2, hn3] <;> exact rfl) ?_
  first | refine AWL.cut0 (by simp (maxSteps := 1000000) only [go_sem, hn0, hn1, hn2, hn3] <;> exact rfl) rfl (by simp (maxSteps := 1000000) only [go_sem, hn0, hn1, hn2, hn3] <;> exact rfl) (by decide) (by simp (maxSteps := 1000000) only [go_sem, hn0, hn1, hn2, hn3] <;> exact rfl) (by simp (maxSteps := 1000000) only [go_sem, hn0, hn1, hn2, hn3] <;> exact rfl) (by simp (maxSteps := 1000000) only [go_sem, hn0, hn1, hn2, hn3] <;> exact rfl) (by simp (maxSteps := 1000000) only [go_sem, hn0, hn1, hn2, hn3] <;> exact rfl) ?_ | refine AWL.runGP 1 rfl rfl (by simp (maxSteps := 1000000) only [go_sem, hn0, hn1, hn2, hn3] <;> exact rfl) ?_
  refine AWL.runG (by simp (maxSteps := 1000000) only [go_sem, hn0, hn1, hn2, hn3] <;> exact rfl) ?_
  refine AWL.fin (by first | (simp (disch := omega) only [go_sem, w64, wU, hn0, hn1, hn2, hn3] <;> exact rfl) | exact rfl) ?_
  refine AW.regR1 rfl (by simp (maxSteps := 1000000) only [go_sem, hn0, hn1, hn2, hn3] <;> exact rfl) (by first | (simp (disch := omega) only [go_sem, w64, wU, hn0, hn1, hn2, hn3] <;> exact rfl) | exact rfl) ?_
  show AW _ _ _ _ _
  refine AW.regR1 rfl (by simp (maxSteps := 1000000) only [go_sem, hn0, hn1, hn2, hn3] <;> exact rfl) (by first | (simp (disch := omega) only [go_sem, w64, wU, hn0, hn1, hn2, hn3] <;> exact rfl) | exact rfl) ?_
  show ARounds _ _ _ _ _ _
  refine ARounds.mk ?_
  refine AW.seq ?_
  refine AW.regR rfl (by simp (maxSteps := 1000000) only [go_sem, hn0, hn1, hn2, hn3] <;> exact rfl) (by first | (simp (disch := omega) only [go_sem, w64, wU, hn0, hn1, hn2, hn3] <;> exact rfl) | exact rfl) ?_
  refine AW.condF (by simp (maxSteps := 1000000) only [go_sem, hn0, hn1, hn2, hn3] <;> exact rfl) ?_
  refine AW.exit ?_
  show AW _ _ _ _ _
  refine AW.regR rfl (by simp (maxSteps := 1000000) only [go_sem, hn0, hn1, hn2, hn3] <;> exact rfl) (by first | (simp (disch := omega) only [go_sem, w64, wU, hn0, hn1, hn2, hn3] <;> exact rfl) | exact rfl) ?_
  refine retK.fin rfl (by simp (maxSteps := 1000000) only [go_sem, hn0, hn1, hn2, hn3] <;> exact rfl) (by simp (maxSteps := 1000000) only [go_sem, hn0, hn1, hn2, hn3] <;> exact rfl) (.of ?_)
  simp [sort2, nR, hn1, hn3]
theorem c52 (x y : Int) : PC Try.prog 52 [.lst true 1 [[.int .i64 x], [.int .i64 y]]] (.lst false 1 ((sort2 x y).map nR)) := by
  rcases Int.lt_trichotomy x y with h | h | h
  · exact c52l x y h
  · exact c52e x y h
  · exact c52g x y h
end Go.Ab.Try
