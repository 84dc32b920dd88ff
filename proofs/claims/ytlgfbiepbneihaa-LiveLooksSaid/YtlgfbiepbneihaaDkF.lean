/- The functions of the disk's layer: the small ones. -/
import Derived.Test.YtlgfbiepbneihaaDL
import Derived.Test.YtlgfbiepbneihaaTy
namespace Go.Ab.Try
open Go.Proofs Go.Ab
set_option linter.unusedVariables false
set_option linter.unusedSimpArgs false
set_option maxRecDepth 100000
theorem follows : Try.prog.follows .mixedOrders = true := by kernel_rfl
theorem c138 (D : List Int) (l : List Pn) (e b : Int) (hD : D.length ≤ 1000000) : PC Try.prog 138 [devV D l e, .int .u64 b] (.bool (decide ((D.length : Int) ≤ b))) := by
  refine PC.start 11 Try.call138 Try.func138 rfl Try.ntmps138 Try.results138 (by simp only [go_sem]; exact rfl) fun z hz => ?_
  refine AW.regR rfl (by simp (maxSteps := 1000000) only [go_sem, List.length_map] <;> exact rfl) (by simp (disch := omega) only [go_sem, w64, wU, List.length_map] <;> exact rfl) ?_
  refine AW.regR rfl (by simp (maxSteps := 1000000) only [go_sem, List.length_map] <;> exact rfl) (by simp (disch := omega) only [go_sem, w64, wU, List.length_map] <;> exact rfl) ?_
  refine retK.fin rfl (by simp (maxSteps := 1000000) only [go_sem, List.length_map] <;> exact rfl) (by simp (maxSteps := 1000000) only [go_sem, List.length_map] <;> exact rfl) (.of ?_)
  rfl
theorem c139 (l : List Pn) (f : Bool) : PC Try.prog 139 [.lst f 3 (l.map pnR)] (.lst true 3 (l.map pnR)) := by
  refine PC.start 9 Try.call139 Try.func139 rfl Try.ntmps139 Try.results139 (by simp only [go_sem]; exact rfl) fun z hz => ?_
  refine AW.regR rfl (by simp (maxSteps := 1000000) only [go_sem] <;> exact rfl) (by simp (disch := omega) only [go_sem, w64, wU] <;> exact rfl) ?_
  refine AW.regL ?_
  refine AWL.runG (by simp (maxSteps := 1000000) only [go_sem] <;> exact rfl) ?_
  refine AWL.clip (by simp (maxSteps := 1000000) only [go_sem] <;> exact rfl) rfl (by simp (maxSteps := 1000000) only [go_sem] <;> exact rfl) (by decide) (by simp (maxSteps := 1000000) only [go_sem] <;> exact rfl) (by simp (maxSteps := 1000000) only [go_sem] <;> exact rfl) (by simp (maxSteps := 1000000) only [go_sem] <;> exact rfl) (by simp (maxSteps := 1000000) only [go_sem] <;> exact rfl) ?_
  refine AWL.runG (by simp (maxSteps := 1000000) only [go_sem] <;> exact rfl) ?_
  refine AWL.fin (by simp (disch := omega) only [go_sem, w64, wU] <;> exact rfl) ?_
  refine retK.fin rfl (by simp (maxSteps := 1000000) only [go_sem] <;> exact rfl) (by simp (maxSteps := 1000000) only [go_sem] <;> exact rfl) (.of ?_)
  rfl
theorem c136 (D : List Int) (f : Bool) (hD : D.length ≤ 1000000) : PC Try.prog 136 [.lst f 1 (D.map wdR)] (.lst false 1 (D.map wdR)) := by
  refine PC.start 8 Try.call136 Try.func136 rfl Try.ntmps136 Try.results136 (by simp only [go_sem]; exact rfl) fun z hz => ?_
  refine AW.regR rfl (by simp (maxSteps := 1000000) only [go_sem, List.length_map, Nat.zero_add] <;> exact rfl) (by simp (disch := omega) only [go_sem, w64, wU, List.length_map, Nat.zero_add] <;> exact rfl) ?_
  refine AW.seq ?_
  refine AW.regL ?_
  refine AWL.runG (by simp (maxSteps := 1000000) only [go_sem, List.length_map, Nat.zero_add] <;> exact rfl) ?_
  refine AWL.nilq (by simp (maxSteps := 1000000) only [go_sem, List.length_map, Nat.zero_add] <;> exact rfl) rfl (by simp (maxSteps := 1000000) only [go_sem, List.length_map, Nat.zero_add] <;> exact rfl) (by simp (maxSteps := 1000000) only [go_sem, List.length_map, Nat.zero_add] <;> exact rfl) (fun _ => by simp (maxSteps := 1000000) only [go_sem, List.length_map, Nat.zero_add] <;> exact rfl) (fun b hb => ?_)
  refine AWL.fin (by simp (disch := omega) only [go_sem, w64, wU, List.length_map, Nat.zero_add] <;> exact rfl) ?_
  refine AW.cond (by simp (maxSteps := 1000000) only [go_sem, List.length_map, Nat.zero_add] <;> exact rfl) (fun hc1 => ?_) (fun hc1 => ?_)
  · try simp only [decide_eq_true_eq, decide_eq_false_iff_not, Bool.or_eq_true, Bool.or_eq_false_iff, Bool.and_eq_true, Bool.and_eq_false_imp, Bool.not_eq_true', Bool.not_eq_false'] at hc1
    refine AW.regR rfl (by simp (maxSteps := 1000000) only [go_sem, List.length_map, Nat.zero_add] <;> exact rfl) (by simp (disch := omega) only [go_sem, w64, wU, List.length_map, Nat.zero_add] <;> exact rfl) ?_
    refine retK.fin rfl (by simp (maxSteps := 1000000) only [go_sem, List.length_map, Nat.zero_add] <;> exact rfl) (by simp (maxSteps := 1000000) only [go_sem, List.length_map, Nat.zero_add] <;> exact rfl) ?_
    rw [hb hc1]; exact Sub.nil0 0 1 true
  · try simp only [decide_eq_true_eq, decide_eq_false_iff_not, Bool.or_eq_true, Bool.or_eq_false_iff, Bool.and_eq_true, Bool.and_eq_false_imp, Bool.not_eq_true', Bool.not_eq_false'] at hc1
    have g1 : (D.length * 8 ≤ 140737488355328) = True := eq_true (by omega)
    have g2 : (D.length ≤ 140737488355328) = True := eq_true (by omega)
    refine AW.skip ?_
    show AW _ _ _ _ _
    refine AW.regR rfl (by simp (maxSteps := 1000000) only [go_sem, List.length_map, Nat.zero_add, g1, g2] <;> exact rfl) (by simp (disch := omega) only [go_sem, w64, wU, List.length_map, Nat.zero_add, g1, g2] <;> exact rfl) ?_
    refine retK.fin rfl (by simp (maxSteps := 1000000) only [go_sem, List.length_map, Nat.zero_add, g1, g2] <;> exact rfl) (by simp (maxSteps := 1000000) only [go_sem, List.length_map, Nat.zero_add, g1, g2] <;> exact rfl) (.of ?_)
    exact congrArg (PV.lst false 1) (List.take_of_length_le (by simp))
theorem c140 (D : List Int) (f : Bool) (hD : D.length ≤ 1000000) : PC Try.prog 140 [.lst f 1 (D.map wdR)] (devV D [] 0) := by
  refine PC.start 6 Try.call140 Try.func140 rfl Try.ntmps140 Try.results140 (by simp only [go_sem]; exact rfl) fun z hz => ?_
  refine AW.regR rfl (by simp (maxSteps := 1000000) only [go_sem] <;> exact rfl) (by simp (disch := omega) only [go_sem, w64, wU] <;> exact rfl) ?_
  refine AW.regS rfl ?_
  refine ARN.run1 (by simp (maxSteps := 1000000) only [go_sem] <;> exact rfl) ?_
  refine ARN.pcall (fun hp => c136 D f hD) rfl (by simp (maxSteps := 1000000) only [go_sem] <;> exact rfl) (by simp only [go_sem]) (by simp (maxSteps := 1000000) only [go_sem] <;> exact rfl) ?_
  refine ARN.run1 (by simp (maxSteps := 1000000) only [go_sem] <;> exact rfl) ?_
  refine ARN.fin (by simp (disch := omega) only [go_sem, w64, wU] <;> exact rfl) ?_
  refine retK.fin rfl (by simp (maxSteps := 1000000) only [go_sem] <;> exact rfl) (by simp (maxSteps := 1000000) only [go_sem] <;> exact rfl) ?_
  exact Sub.agg ⟨Sub.refl _, Sub.nil0 0 3 true, Sub.refl _, trivial⟩
theorem c66 (a b : List Int) (p q : Bool) (ha : (a.length : Int) ≤ 9223372036854775807) (hb : (b.length : Int) ≤ 9223372036854775807) : PC Try.prog 66 [.lst p 1 (a.map wdR), .lst q 1 (b.map wdR)] (.bool (decide (a = b))) := by
  refine PC.start 26 Try.call66 Try.func66 rfl Try.ntmps66 Try.results66 (by simp only [go_sem]; exact rfl) fun z hz => ?_
  refine AW.regR rfl (by simp (maxSteps := 1000000) only [go_sem, List.length_map] <;> exact rfl) (by simp (disch := omega) only [go_sem, w64, wU, List.length_map] <;> exact rfl) ?_
  refine AW.seq ?_
  refine AW.regR rfl (by simp (maxSteps := 1000000) only [go_sem, List.length_map] <;> exact rfl) (by simp (disch := omega) only [go_sem, w64, wU, List.length_map] <;> exact rfl) ?_
  refine AW.cond (by simp (maxSteps := 1000000) only [go_sem, List.length_map] <;> exact rfl) (fun hc1 => ?_) (fun hc1 => ?_)
  · try simp only [decide_eq_true_eq, decide_eq_false_iff_not, Bool.or_eq_true, Bool.or_eq_false_iff, Bool.and_eq_true, Bool.and_eq_false_imp, Bool.not_eq_true', Bool.not_eq_false'] at hc1
    refine AW.regR rfl (by simp (maxSteps := 1000000) only [go_sem, List.length_map] <;> exact rfl) (by simp (disch := omega) only [go_sem, w64, wU, List.length_map] <;> exact rfl) ?_
    refine retK.fin rfl (by simp (maxSteps := 1000000) only [go_sem, List.length_map] <;> exact rfl) (by simp (maxSteps := 1000000) only [go_sem, List.length_map] <;> exact rfl) (.of ?_)
    have : a ≠ b := fun e => by subst e; omega
    simp [this]
  · try simp only [decide_eq_true_eq, decide_eq_false_iff_not, Bool.or_eq_true, Bool.or_eq_false_iff, Bool.and_eq_true, Bool.and_eq_false_imp, Bool.not_eq_true', Bool.not_eq_false'] at hc1
    refine AW.skip ?_
    show AW _ _ _ _ _
    refine AW.seq ?_
    refine AW.regR rfl (by simp (maxSteps := 1000000) only [go_sem, List.length_map] <;> exact rfl) (by simp (disch := omega) only [go_sem, w64, wU, List.length_map] <;> exact rfl) ?_
    refine AW.block ?_
    refine AW.loopVh (α := (Int)) (fun (i : (Int)) => [(5, .pv (.int .i64 i))]) (fun (i : (Int)) => (0 ≤ i) ∧ (i ≤ (a.length : Int)) ∧ (∀ j : Nat, (j : Int) < i → a.getD j 0 = b.getD j 0)) (fun (i : (Int)) => ((a.length : Int) - i).toNat) 0 ?_ ?_ ?_
    · exact ⟨by omega, by omega, fun j hj => by omega⟩
    · refine Wk.sub ?_
      simp (maxSteps := 1000000) (disch := omega) only [go_sem, w64, wU, List.length_map]
    · rintro i hF _ ht
      simp only [updT, go_sem] at ht
      subst ht
      obtain ⟨h1, h2, h3⟩ := hF
      refine AW.seq ?_
      refine AW.regR rfl (by simp (maxSteps := 1000000) only [go_sem, List.length_map] <;> exact rfl) (by simp (disch := omega) only [go_sem, w64, wU, List.length_map] <;> exact rfl) ?_
      refine AW.cond (by simp (maxSteps := 1000000) only [go_sem, List.length_map] <;> exact rfl) (fun hc2 => ?_) (fun hc2 => ?_)
      · try simp only [decide_eq_true_eq, decide_eq_false_iff_not, Bool.or_eq_true, Bool.or_eq_false_iff, Bool.and_eq_true, Bool.and_eq_false_imp, Bool.not_eq_true', Bool.not_eq_false'] at hc2
        have hr : (a.map wdR)[i.toNat]? = some [.int .u64 (a.getD i.toNat 0)] := wd_at ⟨h1, hc2⟩
        have hr2 : (b.map wdR)[i.toNat]? = some [.int .u64 (b.getD i.toNat 0)] := wd_at ⟨h1, by omega⟩
        have g1 : 0 ≤ i := h1
        have g2 : i < (a.length : Int) := hc2
        have g3 : i < (b.length : Int) := by omega
        refine AW.skip ?_
        show AW _ _ _ _ _
        refine AW.seq ?_
        refine AW.block ?_
        refine AW.regDS follows (by kernel_rfl) ?_
        refine ARE.run1 (by simp (maxSteps := 1000000) only [go_sem, List.length_map, hr, hr2, g1, g2, g3] <;> exact rfl) ?_
        refine ARE.fin [0, 0, 3, 7, 0, 0, 48, 112, 255] _ (by kernel_rfl) (by simp (maxSteps := 1000000) only [go_sem, List.length_map, hr, hr2, g1, g2, g3] <;> exact rfl) (by kernel_rfl) (by simp (disch := omega) only [go_sem, w64, wU, List.length_map, hr, hr2, g1, g2, g3] <;> exact rfl) ?_
        refine AW.cond (by simp (maxSteps := 1000000) only [go_sem, List.length_map, hr, hr2, g1, g2, g3] <;> exact rfl) (fun hc3 => ?_) (fun hc3 => ?_)
        · try simp only [decide_eq_true_eq, decide_eq_false_iff_not, Bool.or_eq_true, Bool.or_eq_false_iff, Bool.and_eq_true, Bool.and_eq_false_imp, Bool.not_eq_true', Bool.not_eq_false'] at hc3
          refine AW.regR rfl (by simp (maxSteps := 1000000) only [go_sem, List.length_map, hr, hr2, g1, g2, g3] <;> exact rfl) (by simp (disch := omega) only [go_sem, w64, wU, List.length_map, hr, hr2, g1, g2, g3] <;> exact rfl) ?_
          refine retK.fin rfl (by simp (maxSteps := 1000000) only [go_sem, List.length_map, hr, hr2, g1, g2, g3] <;> exact rfl) (by simp (maxSteps := 1000000) only [go_sem, List.length_map, hr, hr2, g1, g2, g3] <;> exact rfl) (.of ?_)
          have : a ≠ b := fun e => by subst e; simp at hc3
          simp [this]
        · try simp only [decide_eq_true_eq, decide_eq_false_iff_not, Bool.or_eq_true, Bool.or_eq_false_iff, Bool.and_eq_true, Bool.and_eq_false_imp, Bool.not_eq_true', Bool.not_eq_false'] at hc3
          refine AW.skip ?_
          show AW _ _ _ _ _
          refine AW.regR1 rfl (by simp (maxSteps := 1000000) only [go_sem, List.length_map, hr, hr2, g1, g2, g3] <;> exact rfl) (by simp (disch := omega) only [go_sem, w64, wU, List.length_map, hr, hr2, g1, g2, g3] <;> exact rfl) ?_
          refine ⟨(i + 1), ?_, ?_, ?_⟩
          · (try dsimp only); omega
          · exact ⟨by omega, by omega, fun j hj => if e : (j : Int) < i then h3 j e else by (have hji : j = i.toNat := by omega); subst hji; simpa using hc3⟩
          · refine Wk.sub ?_
            simp (maxSteps := 1000000) (disch := omega) only [go_sem, w64, wU, List.length_map, hr, hr2, g1, g2, g3]
      · try simp only [decide_eq_true_eq, decide_eq_false_iff_not, Bool.or_eq_true, Bool.or_eq_false_iff, Bool.and_eq_true, Bool.and_eq_false_imp, Bool.not_eq_true', Bool.not_eq_false'] at hc2
        refine AW.exit ?_
        show AW _ _ _ _ _
        refine AW.regR rfl (by simp (maxSteps := 1000000) only [go_sem, List.length_map] <;> exact rfl) (by simp (disch := omega) only [go_sem, w64, wU, List.length_map] <;> exact rfl) ?_
        refine retK.fin rfl (by simp (maxSteps := 1000000) only [go_sem, List.length_map] <;> exact rfl) (by simp (maxSteps := 1000000) only [go_sem, List.length_map] <;> exact rfl) (.of ?_)
        have : a = b := list_ext (d := 0) (by omega) (fun j hj => h3 j (by omega))
        simp [this]
theorem c73 (a b : List Int) (p q : Bool) (ha : (a.length : Int) ≤ 9223372036854775807) (hb : (b.length : Int) ≤ 9223372036854775807) : PC Try.prog 73 [.lst p 1 (a.map wdR), .lst q 1 (b.map wdR)] (.bool (decide (a = b))) := by
  refine PC.start 26 Try.call73 Try.func73 rfl Try.ntmps73 Try.results73 (by simp only [go_sem]; exact rfl) fun z hz => ?_
  refine AW.regR rfl (by simp (maxSteps := 1000000) only [go_sem, List.length_map] <;> exact rfl) (by simp (disch := omega) only [go_sem, w64, wU, List.length_map] <;> exact rfl) ?_
  refine AW.seq ?_
  refine AW.regR rfl (by simp (maxSteps := 1000000) only [go_sem, List.length_map] <;> exact rfl) (by simp (disch := omega) only [go_sem, w64, wU, List.length_map] <;> exact rfl) ?_
  refine AW.cond (by simp (maxSteps := 1000000) only [go_sem, List.length_map] <;> exact rfl) (fun hc1 => ?_) (fun hc1 => ?_)
  · try simp only [decide_eq_true_eq, decide_eq_false_iff_not, Bool.or_eq_true, Bool.or_eq_false_iff, Bool.and_eq_true, Bool.and_eq_false_imp, Bool.not_eq_true', Bool.not_eq_false'] at hc1
    refine AW.regR rfl (by simp (maxSteps := 1000000) only [go_sem, List.length_map] <;> exact rfl) (by simp (disch := omega) only [go_sem, w64, wU, List.length_map] <;> exact rfl) ?_
    refine retK.fin rfl (by simp (maxSteps := 1000000) only [go_sem, List.length_map] <;> exact rfl) (by simp (maxSteps := 1000000) only [go_sem, List.length_map] <;> exact rfl) (.of ?_)
    have : a ≠ b := fun e => by subst e; omega
    simp [this]
  · try simp only [decide_eq_true_eq, decide_eq_false_iff_not, Bool.or_eq_true, Bool.or_eq_false_iff, Bool.and_eq_true, Bool.and_eq_false_imp, Bool.not_eq_true', Bool.not_eq_false'] at hc1
    refine AW.skip ?_
    show AW _ _ _ _ _
    refine AW.seq ?_
    refine AW.regR rfl (by simp (maxSteps := 1000000) only [go_sem, List.length_map] <;> exact rfl) (by simp (disch := omega) only [go_sem, w64, wU, List.length_map] <;> exact rfl) ?_
    refine AW.block ?_
    refine AW.loopVh (α := (Int)) (fun (i : (Int)) => [(13, .pv (.int .i64 i))]) (fun (i : (Int)) => (0 ≤ i) ∧ (i ≤ (a.length : Int)) ∧ (∀ j : Nat, (j : Int) < i → a.getD j 0 = b.getD j 0)) (fun (i : (Int)) => ((a.length : Int) - i).toNat) 0 ?_ ?_ ?_
    · exact ⟨by omega, by omega, fun j hj => by omega⟩
    · refine Wk.sub ?_
      simp (maxSteps := 1000000) (disch := omega) only [go_sem, w64, wU, List.length_map]
    · rintro i hF _ ht
      simp only [updT, go_sem] at ht
      subst ht
      obtain ⟨h1, h2, h3⟩ := hF
      refine AW.regR rfl (by simp (maxSteps := 1000000) only [go_sem, List.length_map] <;> exact rfl) (by simp (disch := omega) only [go_sem, w64, wU, List.length_map] <;> exact rfl) ?_
      refine AW.seq ?_
      refine AW.cond (by simp (maxSteps := 1000000) only [go_sem, List.length_map] <;> exact rfl) (fun hc2 => ?_) (fun hc2 => ?_)
      · try simp only [decide_eq_true_eq, decide_eq_false_iff_not, Bool.or_eq_true, Bool.or_eq_false_iff, Bool.and_eq_true, Bool.and_eq_false_imp, Bool.not_eq_true', Bool.not_eq_false'] at hc2
        have hr : (a.map wdR)[i.toNat]? = some [.int .u64 (a.getD i.toNat 0)] := wd_at ⟨h1, hc2⟩
        have hr2 : (b.map wdR)[i.toNat]? = some [.int .u64 (b.getD i.toNat 0)] := wd_at ⟨h1, by omega⟩
        have g1 : 0 ≤ i := h1
        have g2 : i < (a.length : Int) := hc2
        have g3 : i < (b.length : Int) := by omega
        refine AW.skip ?_
        show AW _ _ _ _ _
        refine AW.seq ?_
        refine AW.block ?_
        refine AW.regR rfl (by simp (maxSteps := 1000000) only [go_sem, List.length_map, hr, hr2, g1, g2, g3] <;> exact rfl) (by simp (disch := omega) only [go_sem, w64, wU, List.length_map, hr, hr2, g1, g2, g3] <;> exact rfl) ?_
        refine AW.regDS follows (by kernel_rfl) ?_
        refine ARE.run1 (by simp (maxSteps := 1000000) only [go_sem, List.length_map, hr, hr2, g1, g2, g3] <;> exact rfl) ?_
        refine ARE.fin [0, 0, 3, 7, 0, 0, 48, 112, 255] _ (by kernel_rfl) (by simp (maxSteps := 1000000) only [go_sem, List.length_map, hr, hr2, g1, g2, g3] <;> exact rfl) (by kernel_rfl) (by simp (disch := omega) only [go_sem, w64, wU, List.length_map, hr, hr2, g1, g2, g3] <;> exact rfl) ?_
        refine AW.cond (by simp (maxSteps := 1000000) only [go_sem, List.length_map, hr, hr2, g1, g2, g3] <;> exact rfl) (fun hc3 => ?_) (fun hc3 => ?_)
        · try simp only [decide_eq_true_eq, decide_eq_false_iff_not, Bool.or_eq_true, Bool.or_eq_false_iff, Bool.and_eq_true, Bool.and_eq_false_imp, Bool.not_eq_true', Bool.not_eq_false'] at hc3
          refine AW.regR rfl (by simp (maxSteps := 1000000) only [go_sem, List.length_map, hr, hr2, g1, g2, g3] <;> exact rfl) (by simp (disch := omega) only [go_sem, w64, wU, List.length_map, hr, hr2, g1, g2, g3] <;> exact rfl) ?_
          refine retK.fin rfl (by simp (maxSteps := 1000000) only [go_sem, List.length_map, hr, hr2, g1, g2, g3] <;> exact rfl) (by simp (maxSteps := 1000000) only [go_sem, List.length_map, hr, hr2, g1, g2, g3] <;> exact rfl) (.of ?_)
          have : a ≠ b := fun e => by subst e; simp at hc3
          simp [this]
        · try simp only [decide_eq_true_eq, decide_eq_false_iff_not, Bool.or_eq_true, Bool.or_eq_false_iff, Bool.and_eq_true, Bool.and_eq_false_imp, Bool.not_eq_true', Bool.not_eq_false'] at hc3
          refine AW.skip ?_
          show AW _ _ _ _ _
          refine AW.regR1 rfl (by simp (maxSteps := 1000000) only [go_sem, List.length_map, hr, hr2, g1, g2, g3] <;> exact rfl) (by simp (disch := omega) only [go_sem, w64, wU, List.length_map, hr, hr2, g1, g2, g3] <;> exact rfl) ?_
          refine ⟨(i + 1), ?_, ?_, ?_⟩
          · (try dsimp only); omega
          · exact ⟨by omega, by omega, fun j hj => if e : (j : Int) < i then h3 j e else by (have hji : j = i.toNat := by omega); subst hji; simpa using hc3⟩
          · refine Wk.sub ?_
            simp (maxSteps := 1000000) (disch := omega) only [go_sem, w64, wU, List.length_map, hr, hr2, g1, g2, g3]
      · try simp only [decide_eq_true_eq, decide_eq_false_iff_not, Bool.or_eq_true, Bool.or_eq_false_iff, Bool.and_eq_true, Bool.and_eq_false_imp, Bool.not_eq_true', Bool.not_eq_false'] at hc2
        refine AW.exit ?_
        show AW _ _ _ _ _
        refine AW.regR rfl (by simp (maxSteps := 1000000) only [go_sem, List.length_map] <;> exact rfl) (by simp (disch := omega) only [go_sem, w64, wU, List.length_map] <;> exact rfl) ?_
        refine retK.fin rfl (by simp (maxSteps := 1000000) only [go_sem, List.length_map] <;> exact rfl) (by simp (maxSteps := 1000000) only [go_sem, List.length_map] <;> exact rfl) (.of ?_)
        have : a = b := list_ext (d := 0) (by omega) (fun j hj => h3 j (by omega))
        simp [this]
theorem c121 (a b : List Pn) (p q : Bool) (ha : (a.length : Int) ≤ 9223372036854775807) (hb : (b.length : Int) ≤ 9223372036854775807) : PC Try.prog 121 [.lst p 3 (a.map pnR), .lst q 3 (b.map pnR)] (.bool (decide (a = b))) := by
  refine PC.start 26 Try.call121 Try.func121 rfl Try.ntmps121 Try.results121 (by simp only [go_sem]; exact rfl) fun z hz => ?_
  refine AW.regR rfl (by simp (maxSteps := 1000000) only [go_sem, List.length_map] <;> exact rfl) (by simp (disch := omega) only [go_sem, w64, wU, List.length_map] <;> exact rfl) ?_
  refine AW.seq ?_
  refine AW.regR rfl (by simp (maxSteps := 1000000) only [go_sem, List.length_map] <;> exact rfl) (by simp (disch := omega) only [go_sem, w64, wU, List.length_map] <;> exact rfl) ?_
  refine AW.cond (by simp (maxSteps := 1000000) only [go_sem, List.length_map] <;> exact rfl) (fun hc1 => ?_) (fun hc1 => ?_)
  · try simp only [decide_eq_true_eq, decide_eq_false_iff_not, Bool.or_eq_true, Bool.or_eq_false_iff, Bool.and_eq_true, Bool.and_eq_false_imp, Bool.not_eq_true', Bool.not_eq_false'] at hc1
    refine AW.regR rfl (by simp (maxSteps := 1000000) only [go_sem, List.length_map] <;> exact rfl) (by simp (disch := omega) only [go_sem, w64, wU, List.length_map] <;> exact rfl) ?_
    refine retK.fin rfl (by simp (maxSteps := 1000000) only [go_sem, List.length_map] <;> exact rfl) (by simp (maxSteps := 1000000) only [go_sem, List.length_map] <;> exact rfl) (.of ?_)
    have : a ≠ b := fun e => by subst e; omega
    simp [this]
  · try simp only [decide_eq_true_eq, decide_eq_false_iff_not, Bool.or_eq_true, Bool.or_eq_false_iff, Bool.and_eq_true, Bool.and_eq_false_imp, Bool.not_eq_true', Bool.not_eq_false'] at hc1
    refine AW.skip ?_
    show AW _ _ _ _ _
    refine AW.seq ?_
    refine AW.regR rfl (by simp (maxSteps := 1000000) only [go_sem, List.length_map] <;> exact rfl) (by simp (disch := omega) only [go_sem, w64, wU, List.length_map] <;> exact rfl) ?_
    refine AW.block ?_
    refine AW.loopVh (α := (Int)) (fun (i : (Int)) => [(13, .pv (.int .i64 i))]) (fun (i : (Int)) => (0 ≤ i) ∧ (i ≤ (a.length : Int)) ∧ (∀ j : Nat, (j : Int) < i → a.getD j (0, 0, 0) = b.getD j (0, 0, 0))) (fun (i : (Int)) => ((a.length : Int) - i).toNat) 0 ?_ ?_ ?_
    · exact ⟨by omega, by omega, fun j hj => by omega⟩
    · refine Wk.sub ?_
      simp (maxSteps := 1000000) (disch := omega) only [go_sem, w64, wU, List.length_map]
    · rintro i hF _ ht
      simp only [updT, go_sem] at ht
      subst ht
      obtain ⟨h1, h2, h3⟩ := hF
      refine AW.regR rfl (by simp (maxSteps := 1000000) only [go_sem, List.length_map] <;> exact rfl) (by simp (disch := omega) only [go_sem, w64, wU, List.length_map] <;> exact rfl) ?_
      refine AW.seq ?_
      refine AW.cond (by simp (maxSteps := 1000000) only [go_sem, List.length_map] <;> exact rfl) (fun hc2 => ?_) (fun hc2 => ?_)
      · try simp only [decide_eq_true_eq, decide_eq_false_iff_not, Bool.or_eq_true, Bool.or_eq_false_iff, Bool.and_eq_true, Bool.and_eq_false_imp, Bool.not_eq_true', Bool.not_eq_false'] at hc2
        have hr : (a.map pnR)[i.toNat]? = some [.int .i64 (a.getD i.toNat (0, 0, 0)).1, .int .u64 (a.getD i.toNat (0, 0, 0)).2.1, .int .i64 (a.getD i.toNat (0, 0, 0)).2.2] := pn_at ⟨h1, hc2⟩
        have hr2 : (b.map pnR)[i.toNat]? = some [.int .i64 (b.getD i.toNat (0, 0, 0)).1, .int .u64 (b.getD i.toNat (0, 0, 0)).2.1, .int .i64 (b.getD i.toNat (0, 0, 0)).2.2] := pn_at ⟨h1, by omega⟩
        have g1 : 0 ≤ i := h1
        have g2 : i < (a.length : Int) := hc2
        have g3 : i < (b.length : Int) := by omega
        refine AW.skip ?_
        show AW _ _ _ _ _
        refine AW.seq ?_
        refine AW.block ?_
        refine AW.regR rfl (by simp (maxSteps := 1000000) only [go_sem, List.length_map, hr, hr2, g1, g2, g3] <;> exact rfl) (by simp (disch := omega) only [go_sem, w64, wU, List.length_map, hr, hr2, g1, g2, g3] <;> exact rfl) ?_
        refine AW.regDS follows (by kernel_rfl) ?_
        refine ARE.run1 (by simp (maxSteps := 1000000) only [go_sem, List.length_map, hr, hr2, g1, g2, g3] <;> exact rfl) ?_
        refine ARE.fin [0, 0, 3, 7, 0, 0, 48, 112, 255] _ (by kernel_rfl) (by simp (maxSteps := 1000000) only [go_sem, List.length_map, hr, hr2, g1, g2, g3] <;> exact rfl) (by kernel_rfl) (by simp (disch := omega) only [go_sem, w64, wU, List.length_map, hr, hr2, g1, g2, g3] <;> exact rfl) ?_
        refine AW.cond (by simp (maxSteps := 1000000) only [go_sem, List.length_map, hr, hr2, g1, g2, g3] <;> exact rfl) (fun hc3 => ?_) (fun hc3 => ?_)
        · try simp only [decide_eq_true_eq, decide_eq_false_iff_not, Bool.or_eq_true, Bool.or_eq_false_iff, Bool.and_eq_true, Bool.and_eq_false_imp, Bool.not_eq_true', Bool.not_eq_false'] at hc3
          refine AW.regR rfl (by simp (maxSteps := 1000000) only [go_sem, List.length_map, hr, hr2, g1, g2, g3] <;> exact rfl) (by simp (disch := omega) only [go_sem, w64, wU, List.length_map, hr, hr2, g1, g2, g3] <;> exact rfl) ?_
          refine retK.fin rfl (by simp (maxSteps := 1000000) only [go_sem, List.length_map, hr, hr2, g1, g2, g3] <;> exact rfl) (by simp (maxSteps := 1000000) only [go_sem, List.length_map, hr, hr2, g1, g2, g3] <;> exact rfl) (.of ?_)
          have : a ≠ b := fun e => by subst e; simp at hc3
          simp [this]
        · try simp only [decide_eq_true_eq, decide_eq_false_iff_not, Bool.or_eq_true, Bool.or_eq_false_iff, Bool.and_eq_true, Bool.and_eq_false_imp, Bool.not_eq_true', Bool.not_eq_false'] at hc3
          refine AW.skip ?_
          show AW _ _ _ _ _
          refine AW.regR1 rfl (by simp (maxSteps := 1000000) only [go_sem, List.length_map, hr, hr2, g1, g2, g3] <;> exact rfl) (by simp (disch := omega) only [go_sem, w64, wU, List.length_map, hr, hr2, g1, g2, g3] <;> exact rfl) ?_
          refine ⟨(i + 1), ?_, ?_, ?_⟩
          · (try dsimp only); omega
          · exact ⟨by omega, by omega, fun j hj => if e : (j : Int) < i then h3 j e else by (have hji : j = i.toNat := by omega); subst hji; exact pn_ext (by simpa using hc3)⟩
          · refine Wk.sub ?_
            simp (maxSteps := 1000000) (disch := omega) only [go_sem, w64, wU, List.length_map, hr, hr2, g1, g2, g3]
      · try simp only [decide_eq_true_eq, decide_eq_false_iff_not, Bool.or_eq_true, Bool.or_eq_false_iff, Bool.and_eq_true, Bool.and_eq_false_imp, Bool.not_eq_true', Bool.not_eq_false'] at hc2
        refine AW.exit ?_
        show AW _ _ _ _ _
        refine AW.regR rfl (by simp (maxSteps := 1000000) only [go_sem, List.length_map] <;> exact rfl) (by simp (disch := omega) only [go_sem, w64, wU, List.length_map] <;> exact rfl) ?_
        refine retK.fin rfl (by simp (maxSteps := 1000000) only [go_sem, List.length_map] <;> exact rfl) (by simp (maxSteps := 1000000) only [go_sem, List.length_map] <;> exact rfl) (.of ?_)
        have : a = b := list_ext (d := (0, 0, 0)) (by omega) (fun j hj => h3 j (by omega))
        simp [this]
theorem c86 (D : List Int) (l : List Pn) (e b : Int) (hb : 0 ≤ b) (hs : Sm D l) : PC Try.prog 86 [devV D l e, .int .u64 b] (.tup (if b < D.length then [.int .u64 (lastW l b (D[b.toNat]?.getD 0)), .bool true] else [.int .u64 0, .bool false])) := by
  refine PC.start 41 Try.call86 Try.func86 rfl Try.ntmps86 Try.results86 (by simp only [go_sem]; exact rfl) fun z hz => ?_
  obtain ⟨hs1, hs2⟩ := hs
  refine AW.regR rfl (by simp (maxSteps := 1000000) only [go_sem, List.length_map] <;> exact rfl) (by simp (disch := omega) only [go_sem, w64, wU, List.length_map] <;> exact rfl) ?_
  refine AW.seq ?_
  refine AW.regR rfl (by simp (maxSteps := 1000000) only [go_sem, List.length_map] <;> exact rfl) (by simp (disch := omega) only [go_sem, w64, wU, List.length_map] <;> exact rfl) ?_
  refine AW.cond (by simp (maxSteps := 1000000) only [go_sem, List.length_map] <;> exact rfl) (fun hc1 => ?_) (fun hc1 => ?_)
  · try simp only [decide_eq_true_eq, decide_eq_false_iff_not, Bool.or_eq_true, Bool.or_eq_false_iff, Bool.and_eq_true, Bool.and_eq_false_imp, Bool.not_eq_true', Bool.not_eq_false'] at hc1
    refine AW.regR rfl (by simp (maxSteps := 1000000) only [go_sem, List.length_map] <;> exact rfl) (by simp (disch := omega) only [go_sem, w64, wU, List.length_map] <;> exact rfl) ?_
    refine retK.fin rfl (by simp (maxSteps := 1000000) only [go_sem, List.length_map] <;> exact rfl) (by simp (maxSteps := 1000000) only [go_sem, List.length_map] <;> exact rfl) (.of ?_)
    rw [if_neg (by omega)]
  · try simp only [decide_eq_true_eq, decide_eq_false_iff_not, Bool.or_eq_true, Bool.or_eq_false_iff, Bool.and_eq_true, Bool.and_eq_false_imp, Bool.not_eq_true', Bool.not_eq_false'] at hc1
    have hbl : b < (D.length : Int) := by omega
    refine AW.skip ?_
    show AW _ _ _ _ _
    refine AW.seq ?_
    refine AW.regR rfl (by simp (maxSteps := 1000000) only [go_sem, List.length_map, hbl] <;> exact rfl) (by simp (disch := omega) only [go_sem, w64, wU, List.length_map, hbl] <;> exact rfl) ?_
    refine AW.block ?_
    refine AW.loopVh (α := (Int)) (fun (i : (Int)) => [(6, .pv (.int .i64 i))]) (fun (i : (Int)) => (-1 ≤ i) ∧ (i < (l.length : Int)) ∧ (∀ j : Nat, i < (j : Int) → j < l.length → (l.getD j (0, 0, 0)).1 ≠ b)) (fun (i : (Int)) => (i + 1).toNat) ((l.length : Int) - 1) ?_ ?_ ?_
    · exact ⟨by omega, by omega, fun j hj hk => by omega⟩
    · refine Wk.sub ?_
      simp (maxSteps := 1000000) (disch := omega) only [go_sem, w64, wU, List.length_map, hbl]
    · rintro i hF _ ht
      simp only [updT, go_sem] at ht
      subst ht
      obtain ⟨h1, h2, h3⟩ := hF
      refine AW.seq ?_
      refine AW.regR rfl (by simp (maxSteps := 1000000) only [go_sem, List.length_map, hbl] <;> exact rfl) (by simp (disch := omega) only [go_sem, w64, wU, List.length_map, hbl] <;> exact rfl) ?_
      refine AW.cond (by simp (maxSteps := 1000000) only [go_sem, List.length_map, hbl] <;> exact rfl) (fun hc2 => ?_) (fun hc2 => ?_)
      · try simp only [decide_eq_true_eq, decide_eq_false_iff_not, Bool.or_eq_true, Bool.or_eq_false_iff, Bool.and_eq_true, Bool.and_eq_false_imp, Bool.not_eq_true', Bool.not_eq_false'] at hc2
        have hr : (l.map pnR)[i.toNat]? = some [.int .i64 (l.getD i.toNat (0, 0, 0)).1, .int .u64 (l.getD i.toNat (0, 0, 0)).2.1, .int .i64 (l.getD i.toNat (0, 0, 0)).2.2] := pn_at ⟨hc2, h2⟩
        have g1 : 0 ≤ i := hc2
        have g2 : i < (l.length : Int) := h2
        refine AW.skip ?_
        show AW _ _ _ _ _
        refine AW.seq ?_
        refine AW.block ?_
        refine AW.regR rfl (by simp (maxSteps := 1000000) only [go_sem, List.length_map, hbl, hr, g1, g2] <;> exact rfl) (by simp (disch := omega) only [go_sem, w64, wU, List.length_map, hbl, hr, g1, g2] <;> exact rfl) ?_
        refine AW.cond (by simp (maxSteps := 1000000) only [go_sem, List.length_map, hbl, hr, g1, g2] <;> exact rfl) (fun hc3 => ?_) (fun hc3 => ?_)
        · try simp only [decide_eq_true_eq, decide_eq_false_iff_not, Bool.or_eq_true, Bool.or_eq_false_iff, Bool.and_eq_true, Bool.and_eq_false_imp, Bool.not_eq_true', Bool.not_eq_false'] at hc3
          refine AW.regR rfl (by simp (maxSteps := 1000000) only [go_sem, List.length_map, hbl, hr, g1, g2] <;> exact rfl) (by simp (disch := omega) only [go_sem, w64, wU, List.length_map, hbl, hr, g1, g2] <;> exact rfl) ?_
          refine retK.fin rfl (by simp (maxSteps := 1000000) only [go_sem, List.length_map, hbl, hr, g1, g2] <;> exact rfl) (by simp (maxSteps := 1000000) only [go_sem, List.length_map, hbl, hr, g1, g2] <;> exact rfl) (.of ?_)
          rw [if_pos hbl, lastW_hit l b _ i.toNat (by omega) (fun j h4 h5 => h3 j (by omega) h5) hc3]
        · try simp only [decide_eq_true_eq, decide_eq_false_iff_not, Bool.or_eq_true, Bool.or_eq_false_iff, Bool.and_eq_true, Bool.and_eq_false_imp, Bool.not_eq_true', Bool.not_eq_false'] at hc3
          refine AW.skip ?_
          show AW _ _ _ _ _
          refine AW.regR1 rfl (by simp (maxSteps := 1000000) only [go_sem, List.length_map, hbl, hr, g1, g2] <;> exact rfl) (by simp (disch := omega) only [go_sem, w64, wU, List.length_map, hbl, hr, g1, g2] <;> exact rfl) ?_
          refine ⟨(i - 1), ?_, ?_, ?_⟩
          · (try dsimp only); omega
          · exact ⟨by omega, by omega, fun j hj hk => if e : i < (j : Int) then h3 j e hk else by (have hji : j = i.toNat := by omega); subst hji; exact hc3⟩
          · refine Wk.sub ?_
            simp (maxSteps := 1000000) (disch := omega) only [go_sem, w64, wU, List.length_map, hbl, hr, g1, g2]
      · try simp only [decide_eq_true_eq, decide_eq_false_iff_not, Bool.or_eq_true, Bool.or_eq_false_iff, Bool.and_eq_true, Bool.and_eq_false_imp, Bool.not_eq_true', Bool.not_eq_false'] at hc2
        have hb0 : 0 ≤ b := hb
        have hrd : (D.map wdR)[b.toNat]? = some [.int .u64 (D.getD b.toNat 0)] := wd_at ⟨hb, hbl⟩
        refine AW.exit ?_
        show AW _ _ _ _ _
        refine AW.regR rfl (by simp (maxSteps := 1000000) only [go_sem, List.length_map, hbl, hb0, hrd] <;> exact rfl) (by simp (disch := omega) only [go_sem, w64, wU, List.length_map, hbl, hb0, hrd] <;> exact rfl) ?_
        refine retK.fin rfl (by simp (maxSteps := 1000000) only [go_sem, List.length_map, hbl, hb0, hrd] <;> exact rfl) (by simp (maxSteps := 1000000) only [go_sem, List.length_map, hbl, hb0, hrd] <;> exact rfl) (.of ?_)
        rw [if_pos hbl, lastW_none l b _ (fun j hj => h3 j (by omega) hj), List.getD_eq_getElem?_getD]
theorem c114 (D : List Int) (l : List Pn) (e b v most : Int) (hb : 0 ≤ b) (hs : Sm D l) : PC Try.prog 114 [devV D l e, .int .u64 b, .int .u64 v, .int .i64 most] (.tup [devV D (wrL D l e b v most) e, .int .i64 (wrC D l b most)]) := by
  refine PC.start 35 Try.call114 Try.func114 rfl Try.ntmps114 Try.results114 (by simp only [go_sem]; exact rfl) fun z hz => ?_
  obtain ⟨hs1, hs2⟩ := hs
  refine AW.regR rfl (by simp (maxSteps := 1000000) only [go_sem, List.length_map] <;> exact rfl) (by simp (disch := omega) only [go_sem, w64, wU, List.length_map] <;> exact rfl) ?_
  refine AW.seq ?_
  refine AW.block ?_
  refine AW.regS rfl ?_
  refine ARN.run1 (by simp (maxSteps := 1000000) only [go_sem, List.length_map] <;> exact rfl) ?_
  refine ARN.pcall (fun hp => c138 D l e b hs1) rfl (by simp (maxSteps := 1000000) only [go_sem, List.length_map] <;> exact rfl) (by simp only [go_sem]) (by simp (maxSteps := 1000000) only [go_sem, List.length_map] <;> exact rfl) ?_
  refine ARN.run1 (by simp (maxSteps := 1000000) only [go_sem, List.length_map] <;> exact rfl) ?_
  refine ARN.fin (by simp (disch := omega) only [go_sem, w64, wU, List.length_map] <;> exact rfl) ?_
  refine AW.cond (by simp (maxSteps := 1000000) only [go_sem, List.length_map] <;> exact rfl) (fun hc1 => ?_) (fun hc1 => ?_)
  · try simp only [decide_eq_true_eq, decide_eq_false_iff_not, Bool.or_eq_true, Bool.or_eq_false_iff, Bool.and_eq_true, Bool.and_eq_false_imp, Bool.not_eq_true', Bool.not_eq_false'] at hc1
    refine AW.regR rfl (by simp (maxSteps := 1000000) only [go_sem, List.length_map] <;> exact rfl) (by simp (disch := omega) only [go_sem, w64, wU, List.length_map] <;> exact rfl) ?_
    refine retK.fin rfl (by simp (maxSteps := 1000000) only [go_sem, List.length_map] <;> exact rfl) (by simp (maxSteps := 1000000) only [go_sem, List.length_map] <;> exact rfl) (.of ?_)
    unfold wrL wrC; rw [if_pos hc1, if_pos hc1]; rfl
  · try simp only [decide_eq_true_eq, decide_eq_false_iff_not, Bool.or_eq_true, Bool.or_eq_false_iff, Bool.and_eq_true, Bool.and_eq_false_imp, Bool.not_eq_true', Bool.not_eq_false'] at hc1
    have hbl : b < (D.length : Int) := by omega
    refine AW.regR rfl (by simp (maxSteps := 1000000) only [go_sem, List.length_map, hbl] <;> exact rfl) (by simp (disch := omega) only [go_sem, w64, wU, List.length_map, hbl] <;> exact rfl) ?_
    refine AW.cond (by simp (maxSteps := 1000000) only [go_sem, List.length_map, hbl] <;> exact rfl) (fun hc2 => ?_) (fun hc2 => ?_)
    · try simp only [decide_eq_true_eq, decide_eq_false_iff_not, Bool.or_eq_true, Bool.or_eq_false_iff, Bool.and_eq_true, Bool.and_eq_false_imp, Bool.not_eq_true', Bool.not_eq_false'] at hc2
      refine AW.regR rfl (by simp (maxSteps := 1000000) only [go_sem, List.length_map, hbl] <;> exact rfl) (by simp (disch := omega) only [go_sem, w64, wU, List.length_map, hbl] <;> exact rfl) ?_
      refine retK.fin rfl (by simp (maxSteps := 1000000) only [go_sem, List.length_map, hbl] <;> exact rfl) (by simp (maxSteps := 1000000) only [go_sem, List.length_map, hbl] <;> exact rfl) (.of ?_)
      unfold wrL wrC; rw [if_neg hc1, if_neg hc1, if_pos hc2, if_pos hc2]; rfl
    · try simp only [decide_eq_true_eq, decide_eq_false_iff_not, Bool.or_eq_true, Bool.or_eq_false_iff, Bool.and_eq_true, Bool.and_eq_false_imp, Bool.not_eq_true', Bool.not_eq_false'] at hc2
      have hwb : IntKind.i64.wrap b = b := w64 (by omega) (by omega)
      have g1 : ((l.length + 1) * 24 ≤ 140737488355328) = True := eq_true (by omega)
      have g2 : (l.length + 1 ≤ 140737488355328) = True := eq_true (by omega)
      refine AW.skip ?_
      show AW _ _ _ _ _
      refine AW.regDS follows (by kernel_rfl) ?_
      refine ARE.run1 (by simp (maxSteps := 1000000) only [go_sem, List.length_map, hbl, hwb, g1, g2] <;> exact rfl) ?_
      refine ARE.pcall (fun hp => c139 l false) rfl (by simp (maxSteps := 1000000) only [go_sem, List.length_map, hbl, hwb, g1, g2] <;> exact rfl) (by simp only [go_sem]) (by simp (maxSteps := 1000000) only [go_sem, List.length_map, hbl, hwb, g1, g2] <;> exact rfl) ?_
      refine ARE.run1 (by simp (maxSteps := 1000000) only [go_sem, List.length_map, hbl, hwb, g1, g2] <;> exact rfl) ?_
      refine ARE.fin [0, 1, 3, 0, 8, 0, 0, 64, 248, 504, 1023, 2047, 4095] _ (by kernel_rfl) (by simp (maxSteps := 1000000) only [go_sem, List.length_map, hbl, hwb, g1, g2] <;> exact rfl) (by kernel_rfl) (by simp (disch := omega) only [go_sem, w64, wU, List.length_map, hbl, hwb, g1, g2] <;> exact rfl) ?_
      refine AW.regR rfl (by simp (maxSteps := 1000000) only [go_sem, List.length_map, hbl, hwb, g1, g2] <;> exact rfl) (by simp (disch := omega) only [go_sem, w64, wU, List.length_map, hbl, hwb, g1, g2] <;> exact rfl) ?_
      refine retK.fin rfl (by simp (maxSteps := 1000000) only [go_sem, List.length_map, hbl, hwb, g1, g2] <;> exact rfl) (by simp (maxSteps := 1000000) only [go_sem, List.length_map, hbl, hwb, g1, g2] <;> exact rfl) (.of ?_)
      unfold wrL wrC; rw [if_neg hc1, if_neg hc1, if_neg hc2, if_neg hc2, wr_rows]; rfl
theorem c87 (D : List Int) (l : List Pn) (e b v most : Int) (hb : 0 ≤ b) (hs : Sm D l) : PC Try.prog 87 [devV D l e, .int .u64 b, .int .u64 v, .int .i64 most] (.tup [devV D (wrL D l e b v most) e, .int .i64 (wrC D l b most)]) := by
  refine PC.start 39 Try.call87 Try.func87 rfl Try.ntmps87 Try.results87 (by simp only [go_sem]; exact rfl) fun z hz => ?_
  obtain ⟨hs1, hs2⟩ := hs
  refine AW.regR rfl (by simp (maxSteps := 1000000) only [go_sem, List.length_map, Nat.zero_add] <;> exact rfl) (by simp (disch := omega) only [go_sem, w64, wU, List.length_map, Nat.zero_add] <;> exact rfl) ?_
  refine AW.seq ?_
  refine AW.regR rfl (by simp (maxSteps := 1000000) only [go_sem, List.length_map, Nat.zero_add] <;> exact rfl) (by simp (disch := omega) only [go_sem, w64, wU, List.length_map, Nat.zero_add] <;> exact rfl) ?_
  refine AW.cond (by simp (maxSteps := 1000000) only [go_sem, List.length_map, Nat.zero_add] <;> exact rfl) (fun hc1 => ?_) (fun hc1 => ?_)
  · try simp only [decide_eq_true_eq, decide_eq_false_iff_not, Bool.or_eq_true, Bool.or_eq_false_iff, Bool.and_eq_true, Bool.and_eq_false_imp, Bool.not_eq_true', Bool.not_eq_false'] at hc1
    refine AW.regR rfl (by simp (maxSteps := 1000000) only [go_sem, List.length_map, Nat.zero_add] <;> exact rfl) (by simp (disch := omega) only [go_sem, w64, wU, List.length_map, Nat.zero_add] <;> exact rfl) ?_
    refine retK.fin rfl (by simp (maxSteps := 1000000) only [go_sem, List.length_map, Nat.zero_add] <;> exact rfl) (by simp (maxSteps := 1000000) only [go_sem, List.length_map, Nat.zero_add] <;> exact rfl) (.of ?_)
    unfold wrL wrC; rw [if_pos hc1, if_pos hc1]; rfl
  · try simp only [decide_eq_true_eq, decide_eq_false_iff_not, Bool.or_eq_true, Bool.or_eq_false_iff, Bool.and_eq_true, Bool.and_eq_false_imp, Bool.not_eq_true', Bool.not_eq_false'] at hc1
    have hbl : b < (D.length : Int) := by omega
    refine AW.skip ?_
    show AW _ _ _ _ _
    refine AW.seq ?_
    refine AW.regR rfl (by simp (maxSteps := 1000000) only [go_sem, List.length_map, Nat.zero_add, hbl] <;> exact rfl) (by simp (disch := omega) only [go_sem, w64, wU, List.length_map, Nat.zero_add, hbl] <;> exact rfl) ?_
    refine AW.cond (by simp (maxSteps := 1000000) only [go_sem, List.length_map, Nat.zero_add, hbl] <;> exact rfl) (fun hc2 => ?_) (fun hc2 => ?_)
    · try simp only [decide_eq_true_eq, decide_eq_false_iff_not, Bool.or_eq_true, Bool.or_eq_false_iff, Bool.and_eq_true, Bool.and_eq_false_imp, Bool.not_eq_true', Bool.not_eq_false'] at hc2
      refine AW.regR rfl (by simp (maxSteps := 1000000) only [go_sem, List.length_map, Nat.zero_add, hbl] <;> exact rfl) (by simp (disch := omega) only [go_sem, w64, wU, List.length_map, Nat.zero_add, hbl] <;> exact rfl) ?_
      refine retK.fin rfl (by simp (maxSteps := 1000000) only [go_sem, List.length_map, Nat.zero_add, hbl] <;> exact rfl) (by simp (maxSteps := 1000000) only [go_sem, List.length_map, Nat.zero_add, hbl] <;> exact rfl) (.of ?_)
      unfold wrL wrC; rw [if_neg hc1, if_neg hc1, if_pos hc2, if_pos hc2]; rfl
    · try simp only [decide_eq_true_eq, decide_eq_false_iff_not, Bool.or_eq_true, Bool.or_eq_false_iff, Bool.and_eq_true, Bool.and_eq_false_imp, Bool.not_eq_true', Bool.not_eq_false'] at hc2
      have hwb : IntKind.i64.wrap b = b := w64 (by omega) (by omega)
      have g1 : ((l.length + 1) * 24 ≤ 140737488355328) = True := eq_true (by omega)
      have g2 : (l.length + 1 ≤ 140737488355328) = True := eq_true (by omega)
      have g3 : (l.length * 24 ≤ 140737488355328) = True := eq_true (by omega)
      have g4 : (l.length ≤ 140737488355328) = True := eq_true (by omega)
      refine AW.skip ?_
      show AW _ _ _ _ _
      refine AW.regR rfl (by simp (maxSteps := 1000000) only [go_sem, List.length_map, Nat.zero_add, hbl, hwb, g1, g2, g3, g4] <;> exact rfl) (by simp (disch := omega) only [go_sem, w64, wU, List.length_map, Nat.zero_add, hbl, hwb, g1, g2, g3, g4] <;> exact rfl) ?_
      refine AW.regR rfl (by simp (maxSteps := 1000000) only [go_sem, List.length_map, Nat.zero_add, hbl, hwb, g1, g2, g3, g4] <;> exact rfl) (by simp (disch := omega) only [go_sem, w64, wU, List.length_map, Nat.zero_add, hbl, hwb, g1, g2, g3, g4] <;> exact rfl) ?_
      refine AW.regR rfl (by simp (maxSteps := 1000000) only [go_sem, List.length_map, Nat.zero_add, hbl, hwb, g1, g2, g3, g4] <;> exact rfl) (by simp (disch := omega) only [go_sem, w64, wU, List.length_map, Nat.zero_add, hbl, hwb, g1, g2, g3, g4] <;> exact rfl) ?_
      refine AW.regR rfl (by simp (maxSteps := 1000000) only [go_sem, List.length_map, Nat.zero_add, hbl, hwb, g1, g2, g3, g4] <;> exact rfl) (by simp (disch := omega) only [go_sem, w64, wU, List.length_map, Nat.zero_add, hbl, hwb, g1, g2, g3, g4] <;> exact rfl) ?_
      refine retK.fin rfl (by simp (maxSteps := 1000000) only [go_sem, List.length_map, Nat.zero_add, hbl, hwb, g1, g2, g3, g4] <;> exact rfl) (by simp (maxSteps := 1000000) only [go_sem, List.length_map, Nat.zero_add, hbl, hwb, g1, g2, g3, g4] <;> exact rfl) (.of ?_)
      unfold wrL wrC; rw [if_neg hc1, if_neg hc1, if_neg hc2, if_neg hc2, wr_rows]; rfl
theorem c89 (D : List Int) (l : List Pn) (e : Int) (hs : Sm D l) : PC Try.prog 89 [devV D l e] (devV D l (bumpE l e)) := by
  refine PC.start 26 Try.call89 Try.func89 rfl Try.ntmps89 Try.results89 (by simp only [go_sem]; exact rfl) fun z hz => ?_
  obtain ⟨hs1, hs2⟩ := hs
  refine AW.regR rfl (by simp (maxSteps := 1000000) only [go_sem, List.length_map] <;> exact rfl) (by simp (disch := omega) only [go_sem, w64, wU, List.length_map] <;> exact rfl) ?_
  refine AW.seq ?_
  refine AW.regR rfl (by simp (maxSteps := 1000000) only [go_sem, List.length_map] <;> exact rfl) (by simp (disch := omega) only [go_sem, w64, wU, List.length_map] <;> exact rfl) ?_
  refine AW.block ?_
  refine AW.loopVh (α := (Int)) (fun (i : (Int)) => [(3, .pv (.int .i64 i))]) (fun (i : (Int)) => (0 ≤ i) ∧ (i ≤ (l.length : Int)) ∧ (∀ j : Nat, (j : Int) < i → (l.getD j (0, 0, 0)).2.2 ≠ e)) (fun (i : (Int)) => ((l.length : Int) - i).toNat) 0 ?_ ?_ ?_
  · exact ⟨by omega, by omega, fun j hj => by omega⟩
  · refine Wk.sub ?_
    simp (maxSteps := 1000000) (disch := omega) only [go_sem, w64, wU, List.length_map]
  · rintro i hF _ ht
    simp only [updT, go_sem] at ht
    subst ht
    obtain ⟨h1, h2, h3⟩ := hF
    refine AW.seq ?_
    refine AW.regR rfl (by simp (maxSteps := 1000000) only [go_sem, List.length_map] <;> exact rfl) (by simp (disch := omega) only [go_sem, w64, wU, List.length_map] <;> exact rfl) ?_
    refine AW.cond (by simp (maxSteps := 1000000) only [go_sem, List.length_map] <;> exact rfl) (fun hc1 => ?_) (fun hc1 => ?_)
    · try simp only [decide_eq_true_eq, decide_eq_false_iff_not, Bool.or_eq_true, Bool.or_eq_false_iff, Bool.and_eq_true, Bool.and_eq_false_imp, Bool.not_eq_true', Bool.not_eq_false'] at hc1
      have hr : (l.map pnR)[i.toNat]? = some [.int .i64 (l.getD i.toNat (0, 0, 0)).1, .int .u64 (l.getD i.toNat (0, 0, 0)).2.1, .int .i64 (l.getD i.toNat (0, 0, 0)).2.2] := pn_at ⟨h1, hc1⟩
      have g1 : 0 ≤ i := h1
      have g2 : i < (l.length : Int) := hc1
      refine AW.skip ?_
      show AW _ _ _ _ _
      refine AW.seq ?_
      refine AW.block ?_
      refine AW.regDS follows (by kernel_rfl) ?_
      refine ARE.run1 (by simp (maxSteps := 1000000) only [go_sem, List.length_map, hr, g1, g2] <;> exact rfl) ?_
      refine ARE.fin [0, 1, 0, 7, 15, 31, 0, 64, 255] _ (by kernel_rfl) (by simp (maxSteps := 1000000) only [go_sem, List.length_map, hr, g1, g2] <;> exact rfl) (by kernel_rfl) (by simp (disch := omega) only [go_sem, w64, wU, List.length_map, hr, g1, g2] <;> exact rfl) ?_
      refine AW.cond (by simp (maxSteps := 1000000) only [go_sem, List.length_map, hr, g1, g2] <;> exact rfl) (fun hc2 => ?_) (fun hc2 => ?_)
      · try simp only [decide_eq_true_eq, decide_eq_false_iff_not, Bool.or_eq_true, Bool.or_eq_false_iff, Bool.and_eq_true, Bool.and_eq_false_imp, Bool.not_eq_true', Bool.not_eq_false'] at hc2
        refine AW.regR rfl (by simp (maxSteps := 1000000) only [go_sem, List.length_map, hr, g1, g2] <;> exact rfl) (by simp (disch := omega) only [go_sem, w64, wU, List.length_map, hr, g1, g2] <;> exact rfl) ?_
        refine AW.regR rfl (by simp (maxSteps := 1000000) only [go_sem, List.length_map, hr, g1, g2] <;> exact rfl) (by simp (disch := omega) only [go_sem, w64, wU, List.length_map, hr, g1, g2] <;> exact rfl) ?_
        refine retK.fin rfl (by simp (maxSteps := 1000000) only [go_sem, List.length_map, hr, g1, g2] <;> exact rfl) (by simp (maxSteps := 1000000) only [go_sem, List.length_map, hr, g1, g2] <;> exact rfl) (.of ?_)
        rw [bump_hit (k := i.toNat) (by omega) hc2]; rfl
      · try simp only [decide_eq_true_eq, decide_eq_false_iff_not, Bool.or_eq_true, Bool.or_eq_false_iff, Bool.and_eq_true, Bool.and_eq_false_imp, Bool.not_eq_true', Bool.not_eq_false'] at hc2
        refine AW.skip ?_
        show AW _ _ _ _ _
        refine AW.regR1 rfl (by simp (maxSteps := 1000000) only [go_sem, List.length_map, hr, g1, g2] <;> exact rfl) (by simp (disch := omega) only [go_sem, w64, wU, List.length_map, hr, g1, g2] <;> exact rfl) ?_
        refine ⟨(i + 1), ?_, ?_, ?_⟩
        · (try dsimp only); omega
        · exact ⟨by omega, by omega, fun j hj => if e : (j : Int) < i then h3 j e else by (have hji : j = i.toNat := by omega); subst hji; exact hc2⟩
        · refine Wk.sub ?_
          simp (maxSteps := 1000000) (disch := omega) only [go_sem, w64, wU, List.length_map, hr, g1, g2]
    · try simp only [decide_eq_true_eq, decide_eq_false_iff_not, Bool.or_eq_true, Bool.or_eq_false_iff, Bool.and_eq_true, Bool.and_eq_false_imp, Bool.not_eq_true', Bool.not_eq_false'] at hc1
      refine AW.exit ?_
      show AW _ _ _ _ _
      refine AW.regR rfl (by simp (maxSteps := 1000000) only [go_sem, List.length_map] <;> exact rfl) (by simp (disch := omega) only [go_sem, w64, wU, List.length_map] <;> exact rfl) ?_
      refine retK.fin rfl (by simp (maxSteps := 1000000) only [go_sem, List.length_map] <;> exact rfl) (by simp (maxSteps := 1000000) only [go_sem, List.length_map] <;> exact rfl) (.of ?_)
      rw [bump_no (fun j hj => h3 j (by omega))]; rfl
theorem c118 (D : List Int) (l : List Pn) (e : Int) (hs : Sm D l) : PC Try.prog 118 [devV D l e] (devV D l (bumpE l e)) := by
  refine PC.start 12 Try.call118 Try.func118 rfl Try.ntmps118 Try.results118 (by simp only [go_sem]; exact rfl) fun z hz => ?_
  obtain ⟨hs1, hs2⟩ := hs
  refine AW.regR rfl (by simp (maxSteps := 1000000) only [go_sem, List.length_map] <;> exact rfl) (by simp (disch := omega) only [go_sem, w64, wU, List.length_map] <;> exact rfl) ?_
  refine AW.seq ?_
  refine AW.regL ?_
  refine AWL.runG (by simp (maxSteps := 1000000) only [go_sem, List.length_map] <;> exact rfl) ?_
  refine AWL.icall2 rfl (by simp (maxSteps := 1000000) only [go_sem, List.length_map] <;> exact rfl) (by simp (maxSteps := 1000000) only [go_sem, List.length_map] <;> exact rfl) Try.call141 Try.func141 rfl Try.ntmps141 Try.results141 (by simp (maxSteps := 1000000) only [go_sem, List.length_map] <;> exact rfl) (by simp (maxSteps := 1000000) only [go_sem, List.length_map] <;> exact rfl) (fun z1 hz1 => ?_)
  refine AW.regR rfl (by simp (maxSteps := 1000000) only [go_sem, List.length_map] <;> exact rfl) (by simp (disch := omega) only [go_sem, w64, wU, List.length_map] <;> exact rfl) ?_
  refine AW.regL ?_
  refine AWL.runG (by simp (maxSteps := 1000000) only [go_sem, List.length_map] <;> exact rfl) ?_
  refine AWL.icall2 rfl (by simp (maxSteps := 1000000) only [go_sem, List.length_map] <;> exact rfl) (by simp (maxSteps := 1000000) only [go_sem, List.length_map] <;> exact rfl) Try.call148 Try.func148 rfl Try.ntmps148 Try.results148 (by simp (maxSteps := 1000000) only [go_sem, List.length_map] <;> exact rfl) (by simp (maxSteps := 1000000) only [go_sem, List.length_map] <;> exact rfl) (fun z2 hz2 => ?_)
  refine AW.regR rfl (by simp (maxSteps := 1000000) only [go_sem, List.length_map] <;> exact rfl) (by simp (disch := omega) only [go_sem, w64, wU, List.length_map] <;> exact rfl) ?_
  refine AW.seq ?_
  refine AW.regR rfl (by simp (maxSteps := 1000000) only [go_sem, List.length_map] <;> exact rfl) (by simp (disch := omega) only [go_sem, w64, wU, List.length_map] <;> exact rfl) ?_
  refine AW.block ?_
  refine AW.loopV (α := (Int)) (fun (i : (Int)) => [(8, .pv (.int .i64 i))]) (fun (i : (Int)) => [.box [.pv (.lst false 1 (D.map wdR)), .pv (.lst false 3 (l.map pnR)), .pv (.int .i64 e)], .box [.pv (.lst true 0 []), .pv (.lst true 0 []), .pv (.int .i64 0)]]) (fun (i : (Int)) => (0 ≤ i) ∧ (i ≤ (l.length : Int)) ∧ (∀ j : Nat, (j : Int) < i → (l.getD j (0, 0, 0)).2.2 ≠ e)) (fun (i : (Int)) => ((l.length : Int) - i).toNat) 0 ?_ ?_ ?_
  · exact ⟨by omega, by omega, fun j hj => by omega⟩
  · refine Wk.toL [] [0, 1] hz2 (by rfl) (by decide) ?_ ?_
    · simp (maxSteps := 1000000) (disch := omega) only [go_sem, w64, wU, List.length_map]
    · simp (maxSteps := 1000000) (disch := omega) only [go_sem, w64, wU, List.length_map]
  · rintro i hF _ ht _ hh
    simp only [updT, go_sem] at ht hh
    subst ht; subst hh
    obtain ⟨h1, h2, h3⟩ := hF
    refine AW.regR rfl (by simp (maxSteps := 1000000) only [go_sem, List.length_map] <;> exact rfl) (by simp (disch := omega) only [go_sem, w64, wU, List.length_map] <;> exact rfl) ?_
    refine AW.seq ?_
    refine AW.cond (by simp (maxSteps := 1000000) only [go_sem, List.length_map] <;> exact rfl) (fun hc1 => ?_) (fun hc1 => ?_)
    · try simp only [decide_eq_true_eq, decide_eq_false_iff_not, Bool.or_eq_true, Bool.or_eq_false_iff, Bool.and_eq_true, Bool.and_eq_false_imp, Bool.not_eq_true', Bool.not_eq_false'] at hc1
      have hr : (l.map pnR)[i.toNat]? = some [.int .i64 (l.getD i.toNat (0, 0, 0)).1, .int .u64 (l.getD i.toNat (0, 0, 0)).2.1, .int .i64 (l.getD i.toNat (0, 0, 0)).2.2] := pn_at ⟨h1, hc1⟩
      have g1 : 0 ≤ i := h1
      have g2 : i < (l.length : Int) := hc1
      refine AW.skip ?_
      show AW _ _ _ _ _
      refine AW.seq ?_
      refine AW.block ?_
      refine AW.regR rfl (by simp (maxSteps := 1000000) only [go_sem, List.length_map, hr, g1, g2] <;> exact rfl) (by simp (disch := omega) only [go_sem, w64, wU, List.length_map, hr, g1, g2] <;> exact rfl) ?_
      refine AW.regL ?_
      refine AWL.runG (by simp (maxSteps := 1000000) only [go_sem, List.length_map, hr, g1, g2] <;> exact rfl) ?_
      refine AWL.icall2 rfl (by simp (maxSteps := 1000000) only [go_sem, List.length_map, hr, g1, g2] <;> exact rfl) (by simp (maxSteps := 1000000) only [go_sem, List.length_map, hr, g1, g2] <;> exact rfl) Try.call142 Try.func142 rfl Try.ntmps142 Try.results142 (by simp (maxSteps := 1000000) only [go_sem, List.length_map, hr, g1, g2] <;> exact rfl) (by simp (maxSteps := 1000000) only [go_sem, List.length_map, hr, g1, g2] <;> exact rfl) (fun z3 hz3 => ?_)
      refine AW.regR rfl (by simp (maxSteps := 1000000) only [go_sem, List.length_map, hr, g1, g2] <;> exact rfl) (by simp (disch := omega) only [go_sem, w64, wU, List.length_map, hr, g1, g2] <;> exact rfl) ?_
      refine AW.regR rfl (by simp (maxSteps := 1000000) only [go_sem, List.length_map, hr, g1, g2] <;> exact rfl) (by simp (disch := omega) only [go_sem, w64, wU, List.length_map, hr, g1, g2] <;> exact rfl) ?_
      refine icK.finQ rfl (by simp (maxSteps := 1000000) only [go_sem, List.length_map, hr, g1, g2] <;> exact rfl) (by simp (maxSteps := 1000000) only [go_sem, List.length_map, hr, g1, g2] <;> exact rfl) ?_
      refine AWL.fin (by simp (disch := omega) only [go_sem, w64, wU, List.length_map, hr, g1, g2] <;> exact rfl) ?_
      refine AW.cond (by simp (maxSteps := 1000000) only [go_sem, List.length_map, hr, g1, g2] <;> exact rfl) (fun hc2 => ?_) (fun hc2 => ?_)
      · try simp only [decide_eq_true_eq, decide_eq_false_iff_not, Bool.or_eq_true, Bool.or_eq_false_iff, Bool.and_eq_true, Bool.and_eq_false_imp, Bool.not_eq_true', Bool.not_eq_false'] at hc2
        refine AW.regR rfl (by simp (maxSteps := 1000000) only [go_sem, List.length_map, hr, g1, g2] <;> exact rfl) (by simp (disch := omega) only [go_sem, w64, wU, List.length_map, hr, g1, g2] <;> exact rfl) ?_
        refine icK.finQ rfl (by simp (maxSteps := 1000000) only [go_sem, List.length_map, hr, g1, g2] <;> exact rfl) (by simp (maxSteps := 1000000) only [go_sem, List.length_map, hr, g1, g2] <;> exact rfl) ?_
        refine AWL.runG (by simp (maxSteps := 1000000) only [go_sem, List.length_map, hr, g1, g2] <;> exact rfl) ?_
        refine AWL.fin (by simp (disch := omega) only [go_sem, w64, wU, List.length_map, hr, g1, g2] <;> exact rfl) ?_
        refine icK.finQ rfl (by simp (maxSteps := 1000000) only [go_sem, List.length_map, hr, g1, g2] <;> exact rfl) (by simp (maxSteps := 1000000) only [go_sem, List.length_map, hr, g1, g2] <;> exact rfl) ?_
        refine AWL.fin (by simp (disch := omega) only [go_sem, w64, wU, List.length_map, hr, g1, g2] <;> exact rfl) ?_
        refine AW.cond (by simp (maxSteps := 1000000) only [go_sem, List.length_map, hr, g1, g2] <;> exact rfl) (fun hc3 => ?_) (fun hc3 => ?_)
        · try simp only [decide_eq_true_eq, decide_eq_false_iff_not, Bool.or_eq_true, Bool.or_eq_false_iff, Bool.and_eq_true, Bool.and_eq_false_imp, Bool.not_eq_true', Bool.not_eq_false'] at hc3
          refine AW.regR1 rfl (by simp (maxSteps := 1000000) only [go_sem, List.length_map, hr, g1, g2] <;> exact rfl) (by simp (disch := omega) only [go_sem, w64, wU, List.length_map, hr, g1, g2] <;> exact rfl) ?_
          show AW _ _ _ _ _
          refine AW.regR rfl (by simp (maxSteps := 1000000) only [go_sem, List.length_map, hr, g1, g2] <;> exact rfl) (by simp (disch := omega) only [go_sem, w64, wU, List.length_map, hr, g1, g2] <;> exact rfl) ?_
          refine retK.fin rfl (by simp (maxSteps := 1000000) only [go_sem, List.length_map, hr, g1, g2] <;> exact rfl) (by simp (maxSteps := 1000000) only [go_sem, List.length_map, hr, g1, g2] <;> exact rfl) (.of ?_)
          rw [bump_hit (k := i.toNat) (by omega) hc2]; rfl
        · try simp only [decide_eq_true_eq, decide_eq_false_iff_not, Bool.or_eq_true, Bool.or_eq_false_iff, Bool.and_eq_true, Bool.and_eq_false_imp, Bool.not_eq_true', Bool.not_eq_false'] at hc3
          refine AW.skip ?_
          show AW _ _ _ _ _
          refine AW.regR rfl (by simp (maxSteps := 1000000) only [go_sem, List.length_map, hr, g1, g2] <;> exact rfl) (by simp (disch := omega) only [go_sem, w64, wU, List.length_map, hr, g1, g2] <;> exact rfl) ?_
          refine retK.fin rfl (by simp (maxSteps := 1000000) only [go_sem, List.length_map, hr, g1, g2] <;> exact rfl) (by simp (maxSteps := 1000000) only [go_sem, List.length_map, hr, g1, g2] <;> exact rfl) (.of ?_)
          exfalso; simp at hc3
      · try simp only [decide_eq_true_eq, decide_eq_false_iff_not, Bool.or_eq_true, Bool.or_eq_false_iff, Bool.and_eq_true, Bool.and_eq_false_imp, Bool.not_eq_true', Bool.not_eq_false'] at hc2
        refine AW.skip ?_
        show AW _ _ _ _ _
        refine AW.regR1 rfl (by simp (maxSteps := 1000000) only [go_sem, List.length_map, hr, g1, g2] <;> exact rfl) (by simp (disch := omega) only [go_sem, w64, wU, List.length_map, hr, g1, g2] <;> exact rfl) ?_
        refine ⟨(i + 1), ?_, ?_, ?_⟩
        · (try dsimp only); omega
        · exact ⟨by omega, by omega, fun j hj => if e : (j : Int) < i then h3 j e else by (have hji : j = i.toNat := by omega); subst hji; exact hc2⟩
        · refine Wk.toL [] [0, 1] hz2 (by rfl) (by decide) ?_ ?_
          · simp (maxSteps := 1000000) (disch := omega) only [go_sem, w64, wU, List.length_map, hr, g1, g2]
          · simp (maxSteps := 1000000) (disch := omega) only [go_sem, w64, wU, List.length_map, hr, g1, g2]
    · try simp only [decide_eq_true_eq, decide_eq_false_iff_not, Bool.or_eq_true, Bool.or_eq_false_iff, Bool.and_eq_true, Bool.and_eq_false_imp, Bool.not_eq_true', Bool.not_eq_false'] at hc1
      refine AW.exit ?_
      show AW _ _ _ _ _
      refine AW.regR rfl (by simp (maxSteps := 1000000) only [go_sem, List.length_map] <;> exact rfl) (by simp (disch := omega) only [go_sem, w64, wU, List.length_map] <;> exact rfl) ?_
      refine icK.finQ rfl (by simp (maxSteps := 1000000) only [go_sem, List.length_map] <;> exact rfl) (by simp (maxSteps := 1000000) only [go_sem, List.length_map] <;> exact rfl) ?_
      refine AWL.runG (by simp (maxSteps := 1000000) only [go_sem, List.length_map] <;> exact rfl) ?_
      refine AWL.fin (by simp (disch := omega) only [go_sem, w64, wU, List.length_map] <;> exact rfl) ?_
      refine icK.finQ rfl (by simp (maxSteps := 1000000) only [go_sem, List.length_map] <;> exact rfl) (by simp (maxSteps := 1000000) only [go_sem, List.length_map] <;> exact rfl) ?_
      refine AWL.fin (by simp (disch := omega) only [go_sem, w64, wU, List.length_map] <;> exact rfl) ?_
      refine AW.cond (by simp (maxSteps := 1000000) only [go_sem, List.length_map] <;> exact rfl) (fun hc4 => ?_) (fun hc4 => ?_)
      · try simp only [decide_eq_true_eq, decide_eq_false_iff_not, Bool.or_eq_true, Bool.or_eq_false_iff, Bool.and_eq_true, Bool.and_eq_false_imp, Bool.not_eq_true', Bool.not_eq_false'] at hc4
        refine AW.regR1 rfl (by simp (maxSteps := 1000000) only [go_sem, List.length_map] <;> exact rfl) (by simp (disch := omega) only [go_sem, w64, wU, List.length_map] <;> exact rfl) ?_
        show AW _ _ _ _ _
        refine AW.regR rfl (by simp (maxSteps := 1000000) only [go_sem, List.length_map] <;> exact rfl) (by simp (disch := omega) only [go_sem, w64, wU, List.length_map] <;> exact rfl) ?_
        refine retK.fin rfl (by simp (maxSteps := 1000000) only [go_sem, List.length_map] <;> exact rfl) (by simp (maxSteps := 1000000) only [go_sem, List.length_map] <;> exact rfl) (.of ?_)
        exfalso; simp at hc4
      · try simp only [decide_eq_true_eq, decide_eq_false_iff_not, Bool.or_eq_true, Bool.or_eq_false_iff, Bool.and_eq_true, Bool.and_eq_false_imp, Bool.not_eq_true', Bool.not_eq_false'] at hc4
        refine AW.skip ?_
        show AW _ _ _ _ _
        refine AW.regR rfl (by simp (maxSteps := 1000000) only [go_sem, List.length_map] <;> exact rfl) (by simp (disch := omega) only [go_sem, w64, wU, List.length_map] <;> exact rfl) ?_
        refine retK.fin rfl (by simp (maxSteps := 1000000) only [go_sem, List.length_map] <;> exact rfl) (by simp (maxSteps := 1000000) only [go_sem, List.length_map] <;> exact rfl) (.of ?_)
        rw [bump_no (fun j hj => h3 j (by omega))]; rfl
end Go.Ab.Try
