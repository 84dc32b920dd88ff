/- Where a code may go: the example and the laws. -/
import Derived.Test.YtlgfbiepbneihaaRcI
import Derived.Test.YtlgfbiepbneihaaRcJ
import Derived.Test.YtlgfbiepbneihaaVmG
import Derived.Test.YtlgfbiepbneihaaRE
namespace Go.Ab.Try
open Go.Proofs Go.Ab
set_option linter.unusedVariables false
set_option linter.unusedSimpArgs false
set_option linter.unnecessarySimpa false
set_option maxRecDepth 100000
theorem c15x : PC Try.prog 15 [.lst true 5 (exF.map inR), .int .i64 3] (.lst false 1 (([0, 4] : List Int).map nR)) := by
  have := (c15 exF 3 w_exF (by decide)).arg (ps := [.lst true 5 (exF.map inR), .int .i64 3]) ⟨Sub.full _ _ _, Sub.refl _, trivial⟩
  rwa [nx3] at this
theorem c15y : PC Try.prog 15 [.lst true 5 (exF.map inR), .int .i64 4] (.lst false 1 (([] : List Int).map nR)) := by
  have := (c15 exF 4 w_exF (by decide)).arg (ps := [.lst true 5 (exF.map inR), .int .i64 4]) ⟨Sub.full _ _ _, Sub.refl _, trivial⟩
  rwa [nx4] at this
theorem c18x : PC Try.prog 18 [.lst true 5 (exF.map inR)] (.lst false 1 (([true, true, false, true, true] : List Bool).map boR)) := by
  have := (c18 exF w_exF (by decide)).arg (ps := [.lst true 5 (exF.map inR)]) ⟨Sub.full _ _ _, trivial⟩
  rwa [reach_exF] at this
theorem c18y : PC Try.prog 18 [.lst true 0 []] (.lst false 1 ((reachL [] zeS).map boR)) := (c18 [] w_ex0 (by decide)).arg (ps := [.lst true 0 []]) ⟨Sub.nil0 0 5 true, trivial⟩
theorem c21x : PC Try.prog 21 [.lst true 5 (exF.map inR)] (.lst false 2 (([(0, 2), (2, 3), (3, 4)] : List (Int × Int)).map prR)) := by
  have := (c21 exF w_exF (by decide)).arg (ps := [.lst true 5 (exF.map inR)]) ⟨Sub.full _ _ _, trivial⟩
  rwa [blk_exF] at this
theorem c23x : PC Try.prog 23 [.lst true 5 (exF.map inR)] (.bool true) := by
  have := (c23 exF w_exF (by decide)).arg (ps := [.lst true 5 (exF.map inR)]) ⟨Sub.full _ _ _, trivial⟩
  rwa [loop_exF] at this
theorem c23y : PC Try.prog 23 [.lst false 5 (exG.map inR)] (.bool false) := by
  have := c23 exG w_exG (by decide)
  rwa [loop_exG] at this
theorem c14 (a b : List Int) (p q : Bool) (ha : (a.length : Int) ≤ 9223372036854775807) (hb : (b.length : Int) ≤ 9223372036854775807) : PC Try.prog 14 [.lst p 1 (a.map nR), .lst q 1 (b.map nR)] (.bool (decide (a = b))) := by
  refine PC.start 26 Try.call14 Try.func14 rfl Try.ntmps14 Try.results14 (by simp only [go_sem]; exact rfl) fun z hz => ?_
  refine AW.regR rfl (by simp (maxSteps := 1000000) only [go_sem] <;> exact rfl) (by first | (simp (disch := omega) only [go_sem, w64, wU] <;> exact rfl) | exact rfl) ?_
  refine AW.seq ?_
  refine AW.regR rfl (by simp (maxSteps := 1000000) only [go_sem] <;> exact rfl) (by first | (simp (disch := omega) only [go_sem, w64, wU] <;> exact rfl) | exact rfl) ?_
  refine AW.cond (by simp (maxSteps := 1000000) only [go_sem] <;> exact rfl) (fun hc1 => ?_) (fun hc1 => ?_)
  · try simp only [decide_eq_true_eq, decide_eq_false_iff_not, Bool.or_eq_true, Bool.or_eq_false_iff, Bool.and_eq_true, Bool.and_eq_false_imp, Bool.not_eq_true', Bool.not_eq_false'] at hc1
    refine AW.regR rfl (by simp (maxSteps := 1000000) only [go_sem] <;> exact rfl) (by first | (simp (disch := omega) only [go_sem, w64, wU] <;> exact rfl) | exact rfl) ?_
    refine retK.fin rfl (by simp (maxSteps := 1000000) only [go_sem] <;> exact rfl) (by simp (maxSteps := 1000000) only [go_sem] <;> exact rfl) (.of ?_)
    have : a ≠ b := fun e => by subst e; omega
    simp [this]
  · try simp only [decide_eq_true_eq, decide_eq_false_iff_not, Bool.or_eq_true, Bool.or_eq_false_iff, Bool.and_eq_true, Bool.and_eq_false_imp, Bool.not_eq_true', Bool.not_eq_false'] at hc1
    refine AW.skip ?_
    show AW _ _ _ _ _
    refine AW.seq ?_
    refine AW.regR rfl (by simp (maxSteps := 1000000) only [go_sem] <;> exact rfl) (by first | (simp (disch := omega) only [go_sem, w64, wU] <;> exact rfl) | exact rfl) ?_
    refine AW.block ?_
    refine AW.loopVh (α := (Int)) (fun (i : (Int)) => [(5, .pv (.int .i64 i))]) (fun (i : (Int)) => (0 ≤ i) ∧ (i ≤ (a.length : Int)) ∧ (∀ j : Nat, (j : Int) < i → a.getD j 0 = b.getD j 0)) (fun (i : (Int)) => ((a.length : Int) - i).toNat) 0 ?_ ?_ ?_
    · exact ⟨by omega, by omega, fun j hj => by omega⟩
    · refine Wk.sub ?_
      simp (maxSteps := 1000000) (disch := omega) only [go_sem, w64, wU]
    · rintro i hF _ ht
      simp only [updT, go_sem] at ht
      subst ht
      obtain ⟨h1, h2, h3⟩ := hF
      refine AW.seq ?_
      refine AW.regR rfl (by simp (maxSteps := 1000000) only [go_sem] <;> exact rfl) (by first | (simp (disch := omega) only [go_sem, w64, wU] <;> exact rfl) | exact rfl) ?_
      refine AW.cond (by simp (maxSteps := 1000000) only [go_sem] <;> exact rfl) (fun hc2 => ?_) (fun hc2 => ?_)
      · try simp only [decide_eq_true_eq, decide_eq_false_iff_not, Bool.or_eq_true, Bool.or_eq_false_iff, Bool.and_eq_true, Bool.and_eq_false_imp, Bool.not_eq_true', Bool.not_eq_false'] at hc2
        have hr1 : (a.map nR)[i.toNat]? = some [.int .i64 (a.getD i.toNat 0)] := n_at ⟨h1, hc2⟩
        have hr2 : (b.map nR)[i.toNat]? = some [.int .i64 (b.getD i.toNat 0)] := n_at ⟨h1, by omega⟩
        have g1 : 0 ≤ i := h1
        have g2 : i < (a.length : Int) := hc2
        have g3 : i < (b.length : Int) := by omega
        refine AW.skip ?_
        show AW _ _ _ _ _
        refine AW.seq ?_
        refine AW.block ?_
        refine AW.regDS follows (by kernel_rfl) ?_
        refine ARE.run1 (by simp (maxSteps := 1000000) only [go_sem, hr1, hr2, g1, g2, g3] <;> exact rfl) ?_
        refine ARE.fin [0, 0, 3, 7, 0, 0, 48, 112, 255] _ (by kernel_rfl) (by simp (maxSteps := 1000000) only [go_sem, hr1, hr2, g1, g2, g3] <;> exact rfl) (by kernel_rfl) (by first | (simp (disch := omega) only [go_sem, w64, wU, hr1, hr2, g1, g2, g3] <;> exact rfl) | exact rfl) ?_
        refine AW.cond (by simp (maxSteps := 1000000) only [go_sem, hr1, hr2, g1, g2, g3] <;> exact rfl) (fun hc3 => ?_) (fun hc3 => ?_)
        · skip
          refine AW.regR rfl (by simp (maxSteps := 1000000) only [go_sem, hr1, hr2, g1, g2, g3] <;> exact rfl) (by first | (simp (disch := omega) only [go_sem, w64, wU, hr1, hr2, g1, g2, g3] <;> exact rfl) | exact rfl) ?_
          refine retK.fin rfl (by simp (maxSteps := 1000000) only [go_sem, hr1, hr2, g1, g2, g3] <;> exact rfl) (by simp (maxSteps := 1000000) only [go_sem, hr1, hr2, g1, g2, g3] <;> exact rfl) (.of ?_)
          have : a ≠ b := fun e => by subst e; simp at hc3
          simp [this]
        · skip
          refine AW.skip ?_
          show AW _ _ _ _ _
          refine AW.regR1 rfl (by simp (maxSteps := 1000000) only [go_sem, hr1, hr2, g1, g2, g3] <;> exact rfl) (by first | (simp (disch := omega) only [go_sem, w64, wU, hr1, hr2, g1, g2, g3] <;> exact rfl) | exact rfl) ?_
          refine ⟨(i + 1), ?_, ?_, ?_⟩
          · (try dsimp only); omega
          · exact ⟨by omega, by omega, fun j hj => if e : (j : Int) < i then h3 j e else by (have hji : j = i.toNat := by omega); subst hji; simpa using hc3⟩
          · refine Wk.sub ?_
            simp (maxSteps := 1000000) (disch := omega) only [go_sem, w64, wU, hr1, hr2, g1, g2, g3]
      · try simp only [decide_eq_true_eq, decide_eq_false_iff_not, Bool.or_eq_true, Bool.or_eq_false_iff, Bool.and_eq_true, Bool.and_eq_false_imp, Bool.not_eq_true', Bool.not_eq_false'] at hc2
        refine AW.exit ?_
        show AW _ _ _ _ _
        refine AW.regR rfl (by simp (maxSteps := 1000000) only [go_sem] <;> exact rfl) (by first | (simp (disch := omega) only [go_sem, w64, wU] <;> exact rfl) | exact rfl) ?_
        refine retK.fin rfl (by simp (maxSteps := 1000000) only [go_sem] <;> exact rfl) (by simp (maxSteps := 1000000) only [go_sem] <;> exact rfl) (.of ?_)
        have : a = b := list_ext (d := 0) (by omega) (fun j hj => h3 j (by omega))
        simp [this]
theorem c13  : PC Try.prog 13 [] (.bool true) := by
  refine PC.start 47 Try.call13 Try.func13 rfl Try.ntmps13 Try.results13 (by simp only [go_sem]; exact rfl) fun z hz => ?_
  refine AW.regR rfl (by simp (maxSteps := 1000000) only [go_sem, decide_true] <;> exact rfl) (by first | (simp (disch := omega) only [go_sem, w64, wU, decide_true] <;> exact rfl) | exact rfl) ?_
  refine AW.regR rfl (by simp (maxSteps := 1000000) only [go_sem, decide_true] <;> exact rfl) (by first | (simp (disch := omega) only [go_sem, w64, wU, decide_true] <;> exact rfl) | exact rfl) ?_
  refine AW.regS rfl ?_
  refine ARN.run1 (by simp (maxSteps := 1000000) only [go_sem, decide_true] <;> exact rfl) ?_
  refine ARN.pcall (fun hp => c15x) rfl (by simp (maxSteps := 1000000) only [go_sem, decide_true] <;> exact rfl) (by simp only [go_sem]) (by simp (maxSteps := 1000000) only [go_sem, decide_true] <;> exact rfl) ?_
  refine ARN.run1 (by simp (maxSteps := 1000000) only [go_sem, decide_true] <;> exact rfl) ?_
  refine ARN.pcall (fun hp => c14 [0, 4] [0, 4] false true (by decide) (by decide)) rfl (by simp (maxSteps := 1000000) only [go_sem, decide_true] <;> exact rfl) (by simp only [go_sem]) (by simp (maxSteps := 1000000) only [go_sem, decide_true] <;> exact rfl) ?_
  refine ARN.run1 (by simp (maxSteps := 1000000) only [go_sem, decide_true] <;> exact rfl) ?_
  refine ARN.pcall (fun hp => c18x) rfl (by simp (maxSteps := 1000000) only [go_sem, decide_true] <;> exact rfl) (by simp only [go_sem]) (by simp (maxSteps := 1000000) only [go_sem, decide_true] <;> exact rfl) ?_
  refine ARN.run1 (by simp (maxSteps := 1000000) only [go_sem, decide_true] <;> exact rfl) ?_
  refine ARN.pcall (fun hp => c17 [true, true, false, true, true] [true, true, false, true, true] false true (by decide) (by decide)) rfl (by simp (maxSteps := 1000000) only [go_sem, decide_true] <;> exact rfl) (by simp only [go_sem]) (by simp (maxSteps := 1000000) only [go_sem, decide_true] <;> exact rfl) ?_
  refine ARN.run1 (by simp (maxSteps := 1000000) only [go_sem, decide_true] <;> exact rfl) ?_
  refine ARN.pcall (fun hp => c21x) rfl (by simp (maxSteps := 1000000) only [go_sem, decide_true] <;> exact rfl) (by simp only [go_sem]) (by simp (maxSteps := 1000000) only [go_sem, decide_true] <;> exact rfl) ?_
  refine ARN.run1 (by simp (maxSteps := 1000000) only [go_sem, decide_true] <;> exact rfl) ?_
  refine ARN.pcall (fun hp => c20 [(0, 2), (2, 3), (3, 4)] [(0, 2), (2, 3), (3, 4)] false true (by decide) (by decide)) rfl (by simp (maxSteps := 1000000) only [go_sem, decide_true] <;> exact rfl) (by simp only [go_sem]) (by simp (maxSteps := 1000000) only [go_sem, decide_true] <;> exact rfl) ?_
  refine ARN.run1 (by simp (maxSteps := 1000000) only [go_sem, decide_true] <;> exact rfl) ?_
  refine ARN.pcall (fun hp => c23x) rfl (by simp (maxSteps := 1000000) only [go_sem, decide_true] <;> exact rfl) (by simp only [go_sem]) (by simp (maxSteps := 1000000) only [go_sem, decide_true] <;> exact rfl) ?_
  refine ARN.run1 (by simp (maxSteps := 1000000) only [go_sem, decide_true] <;> exact rfl) ?_
  refine ARN.pcall (fun hp => c23y) rfl (by simp (maxSteps := 1000000) only [go_sem, decide_true] <;> exact rfl) (by simp only [go_sem]) (by simp (maxSteps := 1000000) only [go_sem, decide_true] <;> exact rfl) ?_
  refine ARN.run1 (by simp (maxSteps := 1000000) only [go_sem, decide_true] <;> exact rfl) ?_
  refine ARN.pcall (fun hp => c15y) rfl (by simp (maxSteps := 1000000) only [go_sem, decide_true] <;> exact rfl) (by simp only [go_sem]) (by simp (maxSteps := 1000000) only [go_sem, decide_true] <;> exact rfl) ?_
  refine ARN.run1 (by simp (maxSteps := 1000000) only [go_sem, decide_true] <;> exact rfl) ?_
  refine ARN.pcall (fun hp => c18y) rfl (by simp (maxSteps := 1000000) only [go_sem, decide_true] <;> exact rfl) (by simp only [go_sem]) (by simp (maxSteps := 1000000) only [go_sem, decide_true] <;> exact rfl) ?_
  refine ARN.run1 (by simp (maxSteps := 1000000) only [go_sem, decide_true] <;> exact rfl) ?_
  refine ARN.fin (by first | (simp (disch := omega) only [go_sem, w64, wU, decide_true] <;> exact rfl) | exact rfl) ?_
  refine retK.fin rfl (by simp (maxSteps := 1000000) only [go_sem, decide_true] <;> exact rfl) (by simp (maxSteps := 1000000) only [go_sem, decide_true] <;> exact rfl) (.of ?_)
  exact congrArg PV.bool (by simp [reachL_len])
end Go.Ab.Try
