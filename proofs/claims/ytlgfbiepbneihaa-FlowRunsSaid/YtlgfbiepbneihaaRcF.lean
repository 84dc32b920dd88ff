/- Where a code may go: the document's. -/
import Derived.Test.YtlgfbiepbneihaaLvH
import Derived.Test.YtlgfbiepbneihaaRC
import Derived.Test.YtlgfbiepbneihaaKE
namespace Go.Ab.Try
open Go.Proofs Go.Ab
set_option linter.unusedVariables false
set_option linter.unusedSimpArgs false
set_option linter.unnecessarySimpa false
set_option maxRecDepth 100000
theorem c55 (op a b c m : Int) : PC Try.prog 55 [.agg [.int .i64 op, .int .i64 a, .int .i64 b, .int .i64 c, .int .u64 m]] (.bool (endI op)) := by
  refine PC.start 21 Try.call55 Try.func55 rfl Try.ntmps55 Try.results55 (by simp only [go_sem]; exact rfl) fun z hz => ?_
  refine AW.regR rfl (by simp (maxSteps := 1000000) only [go_sem] <;> exact rfl) (by first | (simp (disch := omega) only [go_sem, w64, wU] <;> exact rfl) | exact rfl) ?_
  refine AW.regR rfl (by simp (maxSteps := 1000000) only [go_sem] <;> exact rfl) (by first | (simp (disch := omega) only [go_sem, w64, wU] <;> exact rfl) | exact rfl) ?_
  refine retK.fin rfl (by simp (maxSteps := 1000000) only [go_sem] <;> exact rfl) (by simp (maxSteps := 1000000) only [go_sem] <;> exact rfl) (.of ?_)
  exact congrArg PV.bool (by unfold endI; rw [Bool.eq_iff_iff]; simp only [Bool.or_eq_true, decide_eq_true_eq]; omega)
theorem c17 (a b : List Bool) (p q : Bool) (ha : (a.length : Int) ≤ 9223372036854775807) (hb : (b.length : Int) ≤ 9223372036854775807) : PC Try.prog 17 [.lst p 1 (a.map boR), .lst q 1 (b.map boR)] (.bool (decide (a = b))) := by
  refine PC.start 26 Try.call17 Try.func17 rfl Try.ntmps17 Try.results17 (by simp only [go_sem]; exact rfl) fun z hz => ?_
  refine AW.regR rfl (by simp (maxSteps := 1000000) only [go_sem] <;> exact rfl) (by first | (simp (disch := omega) only [go_sem, w64, wU] <;> exact rfl) | exact rfl) ?_
  refine AW.seq ?_
  refine AW.regR rfl (by simp (maxSteps := 1000000) only [go_sem] <;> exact rfl) (by first | (simp (disch := omega) only [go_sem, w64, wU] <;> exact rfl) | exact rfl) ?_
  refine AW.cond (by simp (maxSteps := 1000000) only [go_sem] <;> exact rfl) (fun hc1 => ?_) (fun hc1 => ?_)
  · try simp only [decide_eq_true_eq, decide_eq_false_iff_not, Bool.or_eq_true, Bool.or_eq_false_iff, Bool.and_eq_true, Bool.and_eq_false_imp, Bool.not_eq_true', Bool.not_eq_false'] at hc1
    refine AW.regR rfl (by simp (maxSteps := 1000000) only [go_sem] <;> exact rfl) (by first | (simp (disch := omega) only [go_sem, w64, wU] <;> exact rfl) | exact rfl) ?_
    refine retK.fin rfl (by simp (maxSteps := 1000000) only [go_sem] <;> exact rfl) (by simp (maxSteps := 1000000) only [go_sem] <;> exact rfl) (.of ?_)
    have : a ≠ b := fun e => by subst e; omega
    simp [this]
  · try simp only [decide_eq_true_eq, decide_eq_false_iff_not, Bool.or_eq_true, Bool.or_eq_false_iff, Bool.and_eq_true, Bool.and_eq_false_imp, Bool.not_eq_true', Bool.not_eq_false'] at hc1
    refine AW.skip ?_
    show AW _ _ _ _ _
    refine AW.seq ?_
    refine AW.regR rfl (by simp (maxSteps := 1000000) only [go_sem] <;> exact rfl) (by first | (simp (disch := omega) only [go_sem, w64, wU] <;> exact rfl) | exact rfl) ?_
    refine AW.block ?_
    refine AW.loopVh (α := (Int)) (fun (i : (Int)) => [(5, .pv (.int .i64 i))]) (fun (i : (Int)) => (0 ≤ i) ∧ (i ≤ (a.length : Int)) ∧ (∀ j : Nat, (j : Int) < i → a.getD j false = b.getD j false)) (fun (i : (Int)) => ((a.length : Int) - i).toNat) 0 ?_ ?_ ?_
    · exact ⟨by omega, by omega, fun j hj => by omega⟩
    · refine Wk.sub ?_
      simp (maxSteps := 1000000) (disch := omega) only [go_sem, w64, wU]
    · rintro i hF _ ht
      simp only [updT, go_sem] at ht
      subst ht
      obtain ⟨h1, h2, h3⟩ := hF
      refine AW.seq ?_
      refine AW.regR rfl (by simp (maxSteps := 1000000) only [go_sem] <;> exact rfl) (by first | (simp (disch := omega) only [go_sem, w64, wU] <;> exact rfl) | exact rfl) ?_
      refine AW.cond (by simp (maxSteps := 1000000) only [go_sem] <;> exact rfl) (fun hc2 => ?_) (fun hc2 => ?_)
      · try simp only [decide_eq_true_eq, decide_eq_false_iff_not, Bool.or_eq_true, Bool.or_eq_false_iff, Bool.and_eq_true, Bool.and_eq_false_imp, Bool.not_eq_true', Bool.not_eq_false'] at hc2
        have hr1 : (a.map boR)[i.toNat]? = some [.bool (a.getD i.toNat false)] := bo_at ⟨h1, hc2⟩
        have hr2 : (b.map boR)[i.toNat]? = some [.bool (b.getD i.toNat false)] := bo_at ⟨h1, by omega⟩
        have g1 : 0 ≤ i := h1
        have g2 : i < (a.length : Int) := hc2
        have g3 : i < (b.length : Int) := by omega
        refine AW.skip ?_
        show AW _ _ _ _ _
        refine AW.seq ?_
        refine AW.block ?_
        refine AW.regDS follows (by kernel_rfl) ?_
        refine ARE.run1 (by simp (maxSteps := 1000000) only [go_sem, hr1, hr2, g1, g2, g3] <;> exact rfl) ?_
        refine ARE.fin [0, 0, 3, 7, 0, 0, 48, 112, 255] _ (by kernel_rfl) (by simp (maxSteps := 1000000) only [go_sem, hr1, hr2, g1, g2, g3] <;> exact rfl) (by kernel_rfl) (by first | (simp (disch := omega) only [go_sem, w64, wU, hr1, hr2, g1, g2, g3] <;> exact rfl) | exact rfl) ?_
        refine AW.cond (by simp (maxSteps := 1000000) only [go_sem, hr1, hr2, g1, g2, g3] <;> exact rfl) (fun hc3 => ?_) (fun hc3 => ?_)
        · skip
          refine AW.regR rfl (by simp (maxSteps := 1000000) only [go_sem, hr1, hr2, g1, g2, g3] <;> exact rfl) (by first | (simp (disch := omega) only [go_sem, w64, wU, hr1, hr2, g1, g2, g3] <;> exact rfl) | exact rfl) ?_
          refine retK.fin rfl (by simp (maxSteps := 1000000) only [go_sem, hr1, hr2, g1, g2, g3] <;> exact rfl) (by simp (maxSteps := 1000000) only [go_sem, hr1, hr2, g1, g2, g3] <;> exact rfl) (.of ?_)
          have : a ≠ b := fun e => by subst e; simp at hc3
          simp [this]
        · skip
          refine AW.skip ?_
          show AW _ _ _ _ _
          refine AW.regR1 rfl (by simp (maxSteps := 1000000) only [go_sem, hr1, hr2, g1, g2, g3] <;> exact rfl) (by first | (simp (disch := omega) only [go_sem, w64, wU, hr1, hr2, g1, g2, g3] <;> exact rfl) | exact rfl) ?_
          refine ⟨(i + 1), ?_, ?_, ?_⟩
          · (try dsimp only); omega
          · exact ⟨by omega, by omega, fun j hj => if e : (j : Int) < i then h3 j e else by (have hji : j = i.toNat := by omega); subst hji; simpa using hc3⟩
          · refine Wk.sub ?_
            simp (maxSteps := 1000000) (disch := omega) only [go_sem, w64, wU, hr1, hr2, g1, g2, g3]
      · try simp only [decide_eq_true_eq, decide_eq_false_iff_not, Bool.or_eq_true, Bool.or_eq_false_iff, Bool.and_eq_true, Bool.and_eq_false_imp, Bool.not_eq_true', Bool.not_eq_false'] at hc2
        refine AW.exit ?_
        show AW _ _ _ _ _
        refine AW.regR rfl (by simp (maxSteps := 1000000) only [go_sem] <;> exact rfl) (by first | (simp (disch := omega) only [go_sem, w64, wU] <;> exact rfl) | exact rfl) ?_
        refine retK.fin rfl (by simp (maxSteps := 1000000) only [go_sem] <;> exact rfl) (by simp (maxSteps := 1000000) only [go_sem] <;> exact rfl) (.of ?_)
        have : a = b := list_ext (d := false) (by omega) (fun j hj => h3 j (by omega))
        simp [this]
theorem c20 (a b : List (Int × Int)) (p q : Bool) (ha : (a.length : Int) ≤ 9223372036854775807) (hb : (b.length : Int) ≤ 9223372036854775807) : PC Try.prog 20 [.lst p 2 (a.map prR), .lst q 2 (b.map prR)] (.bool (decide (a = b))) := by
  refine PC.start 26 Try.call20 Try.func20 rfl Try.ntmps20 Try.results20 (by simp only [go_sem]; exact rfl) fun z hz => ?_
  refine AW.regR rfl (by simp (maxSteps := 1000000) only [go_sem] <;> exact rfl) (by first | (simp (disch := omega) only [go_sem, w64, wU] <;> exact rfl) | exact rfl) ?_
  refine AW.seq ?_
  refine AW.regR rfl (by simp (maxSteps := 1000000) only [go_sem] <;> exact rfl) (by first | (simp (disch := omega) only [go_sem, w64, wU] <;> exact rfl) | exact rfl) ?_
  refine AW.cond (by simp (maxSteps := 1000000) only [go_sem] <;> exact rfl) (fun hc1 => ?_) (fun hc1 => ?_)
  · try simp only [decide_eq_true_eq, decide_eq_false_iff_not, Bool.or_eq_true, Bool.or_eq_false_iff, Bool.and_eq_true, Bool.and_eq_false_imp, Bool.not_eq_true', Bool.not_eq_false'] at hc1
    refine AW.regR rfl (by simp (maxSteps := 1000000) only [go_sem] <;> exact rfl) (by first | (simp (disch := omega) only [go_sem, w64, wU] <;> exact rfl) | exact rfl) ?_
    refine retK.fin rfl (by simp (maxSteps := 1000000) only [go_sem] <;> exact rfl) (by simp (maxSteps := 1000000) only [go_sem] <;> exact rfl) (.of ?_)
    have : a ≠ b := fun e => by subst e; omega
    simp [this]
  · try simp only [decide_eq_true_eq, decide_eq_false_iff_not, Bool.or_eq_true, Bool.or_eq_false_iff, Bool.and_eq_true, Bool.and_eq_false_imp, Bool.not_eq_true', Bool.not_eq_false'] at hc1
    refine AW.skip ?_
    show AW _ _ _ _ _
    refine AW.seq ?_
    refine AW.regR rfl (by simp (maxSteps := 1000000) only [go_sem] <;> exact rfl) (by first | (simp (disch := omega) only [go_sem, w64, wU] <;> exact rfl) | exact rfl) ?_
    refine AW.block ?_
    refine AW.loopVh (α := (Int)) (fun (i : (Int)) => [(5, .pv (.int .i64 i))]) (fun (i : (Int)) => (0 ≤ i) ∧ (i ≤ (a.length : Int)) ∧ (∀ j : Nat, (j : Int) < i → a.getD j (0, 0) = b.getD j (0, 0))) (fun (i : (Int)) => ((a.length : Int) - i).toNat) 0 ?_ ?_ ?_
    · exact ⟨by omega, by omega, fun j hj => by omega⟩
    · refine Wk.sub ?_
      simp (maxSteps := 1000000) (disch := omega) only [go_sem, w64, wU]
    · rintro i hF _ ht
      simp only [updT, go_sem] at ht
      subst ht
      obtain ⟨h1, h2, h3⟩ := hF
      refine AW.seq ?_
      refine AW.regR rfl (by simp (maxSteps := 1000000) only [go_sem] <;> exact rfl) (by first | (simp (disch := omega) only [go_sem, w64, wU] <;> exact rfl) | exact rfl) ?_
      refine AW.cond (by simp (maxSteps := 1000000) only [go_sem] <;> exact rfl) (fun hc2 => ?_) (fun hc2 => ?_)
      · try simp only [decide_eq_true_eq, decide_eq_false_iff_not, Bool.or_eq_true, Bool.or_eq_false_iff, Bool.and_eq_true, Bool.and_eq_false_imp, Bool.not_eq_true', Bool.not_eq_false'] at hc2
        have hr1 : (a.map prR)[i.toNat]? = some [.int .i64 (a.getD i.toNat (0, 0)).1, .int .i64 (a.getD i.toNat (0, 0)).2] := pr_at ⟨h1, hc2⟩
        have hr2 : (b.map prR)[i.toNat]? = some [.int .i64 (b.getD i.toNat (0, 0)).1, .int .i64 (b.getD i.toNat (0, 0)).2] := pr_at ⟨h1, by omega⟩
        have g1 : 0 ≤ i := h1
        have g2 : i < (a.length : Int) := hc2
        have g3 : i < (b.length : Int) := by omega
        refine AW.skip ?_
        show AW _ _ _ _ _
        refine AW.seq ?_
        refine AW.block ?_
        refine AW.regDS follows (by kernel_rfl) ?_
        refine ARE.run1 (by simp (maxSteps := 1000000) only [go_sem, hr1, hr2, g1, g2, g3] <;> exact rfl) ?_
        refine ARE.fin [0, 0, 3, 7, 0, 0, 48, 112, 255] _ (by kernel_rfl) (by simp (maxSteps := 1000000) only [go_sem, hr1, hr2, g1, g2, g3] <;> exact rfl) (by kernel_rfl) (by first | (simp (disch := omega) only [go_sem, w64, wU, hr1, hr2, g1, g2, g3] <;> exact rfl) | exact rfl) ?_
        refine AW.cond (by simp (maxSteps := 1000000) only [go_sem, hr1, hr2, g1, g2, g3] <;> exact rfl) (fun hc3 => ?_) (fun hc3 => ?_)
        · skip
          refine AW.regR rfl (by simp (maxSteps := 1000000) only [go_sem, hr1, hr2, g1, g2, g3] <;> exact rfl) (by first | (simp (disch := omega) only [go_sem, w64, wU, hr1, hr2, g1, g2, g3] <;> exact rfl) | exact rfl) ?_
          refine retK.fin rfl (by simp (maxSteps := 1000000) only [go_sem, hr1, hr2, g1, g2, g3] <;> exact rfl) (by simp (maxSteps := 1000000) only [go_sem, hr1, hr2, g1, g2, g3] <;> exact rfl) (.of ?_)
          have : a ≠ b := fun e => by subst e; simp at hc3
          simp [this]
        · skip
          refine AW.skip ?_
          show AW _ _ _ _ _
          refine AW.regR1 rfl (by simp (maxSteps := 1000000) only [go_sem, hr1, hr2, g1, g2, g3] <;> exact rfl) (by first | (simp (disch := omega) only [go_sem, w64, wU, hr1, hr2, g1, g2, g3] <;> exact rfl) | exact rfl) ?_
          refine ⟨(i + 1), ?_, ?_, ?_⟩
          · (try dsimp only); omega
          · exact ⟨by omega, by omega, fun j hj => if e : (j : Int) < i then h3 j e else by (have hji : j = i.toNat := by omega); subst hji; exact Prod.ext (by simp at hc3; exact hc3.1) (by simp at hc3; exact hc3.2)⟩
          · refine Wk.sub ?_
            simp (maxSteps := 1000000) (disch := omega) only [go_sem, w64, wU, hr1, hr2, g1, g2, g3]
      · try simp only [decide_eq_true_eq, decide_eq_false_iff_not, Bool.or_eq_true, Bool.or_eq_false_iff, Bool.and_eq_true, Bool.and_eq_false_imp, Bool.not_eq_true', Bool.not_eq_false'] at hc2
        refine AW.exit ?_
        show AW _ _ _ _ _
        refine AW.regR rfl (by simp (maxSteps := 1000000) only [go_sem] <;> exact rfl) (by first | (simp (disch := omega) only [go_sem, w64, wU] <;> exact rfl) | exact rfl) ?_
        refine retK.fin rfl (by simp (maxSteps := 1000000) only [go_sem] <;> exact rfl) (by simp (maxSteps := 1000000) only [go_sem] <;> exact rfl) (.of ?_)
        have : a = b := list_ext (d := (0, 0)) (by omega) (fun j hj => h3 j (by omega))
        simp [this]
theorem c54 (code : List Ins) (at0 : List Bool) (hc : OkC code) (hL : code.length ≤ 100) (h0 : at0.length = code.length + 1) : PC Try.prog 54 [.lst false 5 (code.map inR), .lst false 1 (at0.map boR)] (.lst false 1 ((reachL code (atS at0)).map boR)) := by
  refine PC.start 49 Try.call54 Try.func54 rfl Try.ntmps54 Try.results54 (by simp only [go_sem]; exact rfl) fun z hz => ?_
  refine AW.regR rfl (by simp (maxSteps := 1000000) only [go_sem] <;> exact rfl) (by first | (simp (disch := omega) only [go_sem, w64, wU] <;> exact rfl) | exact rfl) ?_
  refine AW.seq ?_
  have hN : code.length < 65536 := by omega
  refine AW.regR rfl (by simp (maxSteps := 1000000) only [go_sem, hN] <;> exact rfl) (by first | (simp (disch := omega) only [go_sem, w64, wU, hN] <;> exact rfl) | exact rfl) ?_
  refine AW.block ?_
  refine AW.loopVh (α := (List Bool) × (Bool)) (fun ((X, ag) : (List Bool) × (Bool)) => [(1, .pv (.lst false 1 (X.map boR))), (5, .pv (.bool ag))]) (fun ((X, ag) : (List Bool) × (Bool)) => (FrI code at0 X) ∧ (ag = false → ∀ p : Int, 0 ≤ p → p < code.length → cloF code X p)) (fun ((X, ag) : (List Bool) × (Bool)) => 2 * falN X + (if ag = true then 1 else 0)) (at0, true) ?_ ?_ ?_
  · exact ⟨.start h0, fun h => by cases h⟩
  · refine Wk.sub ?_
    simp (maxSteps := 1000000) (disch := omega) only [go_sem, w64, wU, hN]
  · rintro ⟨X, ag⟩ hF _ ht
    simp only [updT, go_sem] at ht
    subst ht
    obtain ⟨l1, l3⟩ := hF
    refine AW.seq ?_
    refine AW.regR rfl (by simp (maxSteps := 1000000) only [go_sem, hN] <;> exact rfl) (by first | (simp (disch := omega) only [go_sem, w64, wU, hN] <;> exact rfl) | exact rfl) ?_
    refine AW.cond (by simp (maxSteps := 1000000) only [go_sem, hN] <;> exact rfl) (fun hc1 => ?_) (fun hc1 => ?_)
    · try simp only [decide_eq_true_eq, decide_eq_false_iff_not, Bool.or_eq_true, Bool.or_eq_false_iff, Bool.and_eq_true, Bool.and_eq_false_imp, Bool.not_eq_true', Bool.not_eq_false'] at hc1
      refine AW.skip ?_
      show AW _ _ _ _ _
      refine AW.block ?_
      refine AW.regR rfl (by simp (maxSteps := 1000000) only [go_sem, hN] <;> exact rfl) (by first | (simp (disch := omega) only [go_sem, w64, wU, hN] <;> exact rfl) | exact rfl) ?_
      refine AW.regR rfl (by simp (maxSteps := 1000000) only [go_sem, hN] <;> exact rfl) (by first | (simp (disch := omega) only [go_sem, w64, wU, hN] <;> exact rfl) | exact rfl) ?_
      refine AW.block ?_
      refine AW.loopVh (α := (List Bool) × (Bool) × (Int)) (fun ((X2, ag2, pc) : (List Bool) × (Bool) × (Int)) => [(1, .pv (.lst false 1 (X2.map boR))), (6, .pv (.int .i64 pc)), (5, .pv (.bool ag2))]) (fun ((X2, ag2, pc) : (List Bool) × (Bool) × (Int)) => (FrI code at0 X2) ∧ (0 ≤ pc) ∧ (pc ≤ (code.length : Int)) ∧ (ag2 = false → X2 = X ∧ ∀ p : Int, 0 ≤ p → p < pc → cloF code X p) ∧ (ag2 = true → falN X2 < falN X)) (fun ((X2, ag2, pc) : (List Bool) × (Bool) × (Int)) => ((code.length : Int) - pc).toNat) (X, false, 0) ?_ ?_ ?_
      · exact ⟨l1, by omega, by omega, fun _ => ⟨rfl, fun p _ hj => by omega⟩, fun h => by cases h⟩
      · refine Wk.sub ?_
        simp (maxSteps := 1000000) (disch := omega) only [go_sem, w64, wU, hN]
      · rintro ⟨X2, ag2, pc⟩ hF _ ht
        simp only [updT, go_sem] at ht
        subst ht
        obtain ⟨k1, k2, k3, k4, k5⟩ := hF
        refine AW.seq ?_
        refine AW.regR rfl (by simp (maxSteps := 1000000) only [go_sem, hN] <;> exact rfl) (by first | (simp (disch := omega) only [go_sem, w64, wU, hN] <;> exact rfl) | exact rfl) ?_
        refine AW.cond (by simp (maxSteps := 1000000) only [go_sem, hN] <;> exact rfl) (fun hc2 => ?_) (fun hc2 => ?_)
        · try simp only [decide_eq_true_eq, decide_eq_false_iff_not, Bool.or_eq_true, Bool.or_eq_false_iff, Bool.and_eq_true, Bool.and_eq_false_imp, Bool.not_eq_true', Bool.not_eq_false'] at hc2
          have g7 : 0 ≤ pc := k2
          have g8 : pc < (code.length : Int) := hc2
          have hlen2 : X2.length = code.length + 1 := k1.len
          have g9 : (pc < (X2.length : Int)) = True := eq_true (by omega)
          have hra : (X2.map boR)[pc.toNat]? = some [.bool (X2.getD pc.toNat false)] := bo_at ⟨k2, by omega⟩
          refine AW.skip ?_
          show AW _ _ _ _ _
          refine AW.seq ?_
          refine AW.block ?_
          refine AW.seq ?_
          refine AW.regR rfl (by simp (maxSteps := 1000000) only [go_sem, hN, g7, g8, hlen2, g9, hra] <;> exact rfl) (by first | (simp (disch := omega) only [go_sem, w64, wU, hN, g7, g8, hlen2, g9, hra] <;> exact rfl) | exact rfl) ?_
          refine AW.cond (by simp (maxSteps := 1000000) only [go_sem, hN, g7, g8, hlen2, g9, hra] <;> exact rfl) (fun hc3 => ?_) (fun hc3 => ?_)
          · skip
            refine AW.exit ?_
            show AW _ _ _ _ _
            refine AW.regR1 rfl (by simp (maxSteps := 1000000) only [go_sem, hN, g7, g8, hlen2, g9, hra] <;> exact rfl) (by first | (simp (disch := omega) only [go_sem, w64, wU, hN, g7, g8, hlen2, g9, hra] <;> exact rfl) | exact rfl) ?_
            refine ⟨(X2, ag2, (pc + 1)), ?_, ?_, ?_⟩
            · (try dsimp only); omega
            · exact ⟨k1, by omega, by omega, fun h => ⟨(k4 h).1, fun p p0 p1 => if e : p < pc then (k4 h).2 p p0 e else (by (have hpp : p = pc := by omega); subst hpp; intro q; rw [← (k4 h).1] at q; (have hq : X2.getD p.toNat false = false := by simpa using hc3); rw [hq] at q; cases q)⟩, k5⟩
            · refine Wk.sub ?_
              simp (maxSteps := 1000000) (disch := omega) only [go_sem, w64, wU, hN, g7, g8, hlen2, g9, hra]
          · skip
            refine AW.skip ?_
            show AW _ _ _ _ _
            refine AW.regS rfl ?_
            refine ARN.run1 (by simp (maxSteps := 1000000) only [go_sem, hN, g7, g8, hlen2, g9, hra] <;> exact rfl) ?_
            refine ARN.pcall (fun hp => c16 code pc hc hL) rfl (by simp (maxSteps := 1000000) only [go_sem, hN, g7, g8, hlen2, g9, hra] <;> exact rfl) (by simp only [go_sem]) (by simp (maxSteps := 1000000) only [go_sem, hN, g7, g8, hlen2, g9, hra] <;> exact rfl) ?_
            refine ARN.run1 (by simp (maxSteps := 1000000) only [go_sem, hN, g7, g8, hlen2, g9, hra] <;> exact rfl) ?_
            refine ARN.fin (by first | (simp (disch := omega) only [go_sem, w64, wU, hN, g7, g8, hlen2, g9, hra] <;> exact rfl) | exact rfl) ?_
            refine AW.regR rfl (by simp (maxSteps := 1000000) only [go_sem, hN, g7, g8, hlen2, g9, hra] <;> exact rfl) (by first | (simp (disch := omega) only [go_sem, w64, wU, hN, g7, g8, hlen2, g9, hra] <;> exact rfl) | exact rfl) ?_
            refine AW.block ?_
            refine AW.loopVh (α := (List Bool) × (Bool) × (Int)) (fun ((X3, ag3, k) : (List Bool) × (Bool) × (Int)) => [(1, .pv (.lst false 1 (X3.map boR))), (8, .pv (.int .i64 k)), (5, .pv (.bool ag3))]) (fun ((X3, ag3, k) : (List Bool) × (Bool) × (Int)) => (FrI code at0 X3) ∧ (0 ≤ k) ∧ (k ≤ ((nextS code pc).length : Int)) ∧ (ag3 = false → X3 = X ∧ (∀ p : Int, 0 ≤ p → p < pc → cloF code X p) ∧ ∀ i : Nat, (i : Int) < k → X.getD ((nextS code pc).getD i 0).toNat false = true) ∧ (ag3 = true → falN X3 < falN X) ∧ (X3.getD pc.toNat false = true) ∧ (falN X3 ≤ falN X2)) (fun ((X3, ag3, k) : (List Bool) × (Bool) × (Int)) => (((nextS code pc).length : Int) - k).toNat) (X2, ag2, 0) ?_ ?_ ?_
            · exact ⟨k1, by omega, by omega, fun h => ⟨(k4 h).1, (k4 h).2, fun i hi => by omega⟩, k5, by simpa using hc3, Nat.le_refl _⟩
            · refine Wk.sub ?_
              simp (maxSteps := 1000000) (disch := omega) only [go_sem, w64, wU, hN, g7, g8, hlen2, g9, hra]
            · rintro ⟨X3, ag3, k⟩ hF _ ht
              simp only [updT, go_sem] at ht
              subst ht
              obtain ⟨j1, j2, j3, j4, j5, j6, j7⟩ := hF
              refine AW.seq ?_
              refine AW.regR rfl (by simp (maxSteps := 1000000) only [go_sem, hN, g7, g8, hlen2, g9, hra] <;> exact rfl) (by first | (simp (disch := omega) only [go_sem, w64, wU, hN, g7, g8, hlen2, g9, hra] <;> exact rfl) | exact rfl) ?_
              refine AW.cond (by simp (maxSteps := 1000000) only [go_sem, hN, g7, g8, hlen2, g9, hra] <;> exact rfl) (fun hc4 => ?_) (fun hc4 => ?_)
              · try simp only [decide_eq_true_eq, decide_eq_false_iff_not, Bool.or_eq_true, Bool.or_eq_false_iff, Bool.and_eq_true, Bool.and_eq_false_imp, Bool.not_eq_true', Bool.not_eq_false'] at hc4
                have q0 : 0 ≤ k := j2
                have q1 : k < ((nextS code pc).length : Int) := hc4
                have hrk : ((nextS code pc).map nR)[k.toNat]? = some [.int .i64 ((nextS code pc).getD k.toNat 0)] := n_at ⟨j2, hc4⟩
                have hmem : ((nextS code pc).getD k.toNat 0) ∈ nextS code pc := getD_mem (by omega)
                have hto : 0 ≤ ((nextS code pc).getD k.toNat 0) ∧ ((nextS code pc).getD k.toNat 0) ≤ code.length := next_in hc hN hmem
                have hlen3 : X3.length = code.length + 1 := j1.len
                have t0 : 0 ≤ ((nextS code pc).getD k.toNat 0) := hto.1
                have t1 : (((nextS code pc).getD k.toNat 0) < (X3.length : Int)) = True := eq_true (by have := hto.2; omega)
                have hrt : (X3.map boR)[((nextS code pc).getD k.toNat 0).toNat]? = some [.bool (X3.getD ((nextS code pc).getD k.toNat 0).toNat false)] := bo_at ⟨hto.1, by have := hto.2; omega⟩
                have hkw : IntKind.i64.wrap (k + 1) = k + 1 := by have := next_len code pc; exact w64 (by omega) (by omega)
                have u1 : (code.length ≤ 140737488355327) = True := eq_true (by omega)
                have t2 : (((nextS code pc).getD k.toNat 0) < ((code.length + 1 : Nat) : Int)) = True := eq_true (by have := hto.2; omega)
                have t3 : List.take (code.length + 1) ((X3.map boR).set ((nextS code pc).getD k.toNat 0).toNat [PV.bool true]) = (X3.map boR).set ((nextS code pc).getD k.toNat 0).toNat (boR true) := List.take_of_length_le (by simp; omega)
                refine AW.skip ?_
                show AW _ _ _ _ _
                refine AW.seq ?_
                refine AW.block ?_
                refine AW.regR rfl (by simp (maxSteps := 1000000) only [go_sem, hN, g7, g8, hlen2, g9, hra, q0, q1, hrk, hmem, hto, hlen3, t0, t1, hrt, hkw, u1, t2, t3] <;> exact rfl) (by first | (simp (disch := omega) only [go_sem, w64, wU, hN, g7, g8, hlen2, g9, hra, q0, q1, hrk, hmem, hto, hlen3, t0, t1, hrt, hkw, u1, t2, t3] <;> exact rfl) | exact rfl) ?_
                refine AW.cond (by simp (maxSteps := 1000000) only [go_sem, hN, g7, g8, hlen2, g9, hra, q0, q1, hrk, hmem, hto, hlen3, t0, t1, hrt, hkw, u1, t2, t3] <;> exact rfl) (fun hc5 => ?_) (fun hc5 => ?_)
                · skip
                  refine AW.regR rfl (by simp (maxSteps := 1000000) only [go_sem, hN, g7, g8, hlen2, g9, hra, q0, q1, hrk, hmem, hto, hlen3, t0, t1, hrt, hkw, u1, t2, t3] <;> exact rfl) (by first | (simp (disch := omega) only [go_sem, w64, wU, hN, g7, g8, hlen2, g9, hra, q0, q1, hrk, hmem, hto, hlen3, t0, t1, hrt, hkw, u1, t2, t3] <;> exact rfl) | exact rfl) ?_
                  refine AW.regR rfl (by simp (maxSteps := 1000000) only [go_sem, hN, g7, g8, hlen2, g9, hra, q0, q1, hrk, hmem, hto, hlen3, t0, t1, hrt, hkw, u1, t2, t3] <;> exact rfl) (by first | (simp (disch := omega) only [go_sem, w64, wU, hN, g7, g8, hlen2, g9, hra, q0, q1, hrk, hmem, hto, hlen3, t0, t1, hrt, hkw, u1, t2, t3] <;> exact rfl) | exact rfl) ?_
                  refine AW.regR rfl (by simp (maxSteps := 1000000) only [go_sem, hN, g7, g8, hlen2, g9, hra, q0, q1, hrk, hmem, hto, hlen3, t0, t1, hrt, hkw, u1, t2, t3] <;> exact rfl) (by first | (simp (disch := omega) only [go_sem, w64, wU, hN, g7, g8, hlen2, g9, hra, q0, q1, hrk, hmem, hto, hlen3, t0, t1, hrt, hkw, u1, t2, t3] <;> exact rfl) | exact rfl) ?_
                  refine AW.regR1 rfl (by simp (maxSteps := 1000000) only [go_sem, hN, g7, g8, hlen2, g9, hra, q0, q1, hrk, hmem, hto, hlen3, t0, t1, hrt, hkw, u1, t2, t3] <;> exact rfl) (by first | (simp (disch := omega) only [go_sem, w64, wU, hN, g7, g8, hlen2, g9, hra, q0, q1, hrk, hmem, hto, hlen3, t0, t1, hrt, hkw, u1, t2, t3] <;> exact rfl) | exact rfl) ?_
                  show AW _ _ _ _ _
                  refine AW.regR1 rfl (by simp (maxSteps := 1000000) only [go_sem, hN, g7, g8, hlen2, g9, hra, q0, q1, hrk, hmem, hto, hlen3, t0, t1, hrt, hkw, u1, t2, t3] <;> exact rfl) (by first | (simp (disch := omega) only [go_sem, w64, wU, hN, g7, g8, hlen2, g9, hra, q0, q1, hrk, hmem, hto, hlen3, t0, t1, hrt, hkw, u1, t2, t3] <;> exact rfl) | exact rfl) ?_
                  refine ⟨(X3.set ((nextS code pc).getD k.toNat 0).toNat true, true, (k + 1)), ?_, ?_, ?_⟩
                  · (try dsimp only); omega
                  · have hlt := fal_lt (X := X) (ag3 := ag3) (k := ((nextS code pc).getD k.toNat 0).toNat) (by have := hto.2; omega) (by simpa using hc5) (fun h => (j4 h).1) j5
                    exact ⟨j1.set k2 j6 hmem hto, by omega, by omega, fun h => (by cases h), fun _ => hlt, set_keep (by have := hto.2; omega) j6, by have := falN_set (k := ((nextS code pc).getD k.toNat 0).toNat) (l := X3) (by have := hto.2; omega) (by simpa using hc5); omega⟩
                  · refine Wk.to [0] [] hz (by decide) ?_ ?_
                    · (simp (maxSteps := 1000000) (disch := omega) only [go_sem, w64, wU, t3]) <;> exact ⟨_, rfl, Sub.refl _⟩
                    · (simp (maxSteps := 1000000) (disch := omega) only [go_sem, w64, wU, t3]) <;> exact ⟨_, rfl, Sub.refl _⟩
                · skip
                  refine AW.skip ?_
                  show AW _ _ _ _ _
                  refine AW.regR1 rfl (by simp (maxSteps := 1000000) only [go_sem, hN, g7, g8, hlen2, g9, hra, q0, q1, hrk, hmem, hto, hlen3, t0, t1, hrt, hkw, u1, t2, t3] <;> exact rfl) (by first | (simp (disch := omega) only [go_sem, w64, wU, hN, g7, g8, hlen2, g9, hra, q0, q1, hrk, hmem, hto, hlen3, t0, t1, hrt, hkw, u1, t2, t3] <;> exact rfl) | exact rfl) ?_
                  refine ⟨(X3, ag3, (k + 1)), ?_, ?_, ?_⟩
                  · (try dsimp only); omega
                  · exact ⟨j1, by omega, by omega, fun h => ⟨(j4 h).1, (j4 h).2.1, fun i hi => if e : (i : Int) < k then (j4 h).2.2 i e else (by (have hik : i = k.toNat := by omega); subst hik; rw [← (j4 h).1]; simpa using hc5)⟩, j5, j6, j7⟩
                  · refine Wk.sub ?_
                    simp (maxSteps := 1000000) (disch := omega) only [go_sem, w64, wU, hN, g7, g8, hlen2, g9, hra, q0, q1, hrk, hmem, hto, hlen3, t0, t1, hrt, hkw, u1, t2, t3]
              · try simp only [decide_eq_true_eq, decide_eq_false_iff_not, Bool.or_eq_true, Bool.or_eq_false_iff, Bool.and_eq_true, Bool.and_eq_false_imp, Bool.not_eq_true', Bool.not_eq_false'] at hc4
                refine AW.exit ?_
                show AW _ _ _ _ _
                refine AW.regR1 rfl (by simp (maxSteps := 1000000) only [go_sem, hN, g7, g8, hlen2, g9, hra] <;> exact rfl) (by first | (simp (disch := omega) only [go_sem, w64, wU, hN, g7, g8, hlen2, g9, hra] <;> exact rfl) | exact rfl) ?_
                refine ⟨(X3, ag3, (pc + 1)), ?_, ?_, ?_⟩
                · (try dsimp only); omega
                · exact ⟨j1, by omega, by omega, fun h => ⟨(j4 h).1, fun p p0 p1 => if e : p < pc then (j4 h).2.1 p p0 e else (by (have hpp : p = pc := by omega); subst hpp; intro q b hb; obtain ⟨i, hi, e⟩ := List.getElem_of_mem hb; have := (j4 h).2.2 i (by omega); rw [show (nextS code p).getD i 0 = b by simp [hi, e]] at this; exact this)⟩, j5⟩
                · refine Wk.sub ?_
                  simp (maxSteps := 1000000) (disch := omega) only [go_sem, w64, wU, hN, g7, g8, hlen2, g9, hra]
        · try simp only [decide_eq_true_eq, decide_eq_false_iff_not, Bool.or_eq_true, Bool.or_eq_false_iff, Bool.and_eq_true, Bool.and_eq_false_imp, Bool.not_eq_true', Bool.not_eq_false'] at hc2
          refine AW.exit ?_
          refine ⟨(X2, ag2), ?_, ?_, ?_⟩
          · exact fal_meas (fun h => (k4 h).1) k5 hc1
          · exact ⟨k1, fun h p p0 p1 => by rw [(k4 h).1]; exact (k4 h).2 p p0 (by omega)⟩
          · refine Wk.sub ?_
            simp (maxSteps := 1000000) (disch := omega) only [go_sem, w64, wU, hN]
    · try simp only [decide_eq_true_eq, decide_eq_false_iff_not, Bool.or_eq_true, Bool.or_eq_false_iff, Bool.and_eq_true, Bool.and_eq_false_imp, Bool.not_eq_true', Bool.not_eq_false'] at hc1
      refine AW.exit ?_
      show AW _ _ _ _ _
      refine AW.regR rfl (by simp (maxSteps := 1000000) only [go_sem, hN] <;> exact rfl) (by first | (simp (disch := omega) only [go_sem, w64, wU, hN] <;> exact rfl) | exact rfl) ?_
      refine retK.fin rfl (by simp (maxSteps := 1000000) only [go_sem, hN] <;> exact rfl) (by simp (maxSteps := 1000000) only [go_sem, hN] <;> exact rfl) (.of ?_)
      have := l1.done hc hN (l3 (by simpa using hc1)) h0
      rw [this]
end Go.Ab.Try
