/- What stands when all is flushed; sameness; a deed. -/
import Derived.Test.YtlgfbiepbneihaaDkF
namespace Go.Ab.Try
open Go.Proofs Go.Ab
set_option linter.unusedVariables false
set_option linter.unusedSimpArgs false
set_option linter.unnecessarySimpa false
set_option maxRecDepth 100000
theorem c129 (D : List Int) (l : List Pn) (p q : Bool) (hs : Sm D l) : PC Try.prog 129 [.lst p 1 (D.map wdR), .lst q 3 (l.map pnR)] (.lst false 1 ((putsD D l).map wdR)) := by
  refine PC.start 44 Try.call129 Try.func129 rfl Try.ntmps129 Try.results129 (by simp only [go_sem]; exact rfl) fun z hz => ?_
  obtain ⟨hs1, hs2⟩ := hs
  have g1 : (D.length * 8 ≤ 140737488355328) = True := eq_true (by omega)
  have g2 : (D.length ≤ 140737488355328) = True := eq_true (by omega)
  refine AW.regR rfl (by simp (maxSteps := 1000000) only [go_sem, List.length_map, Nat.zero_add, g1, g2, wdR] <;> exact rfl) (by first | (simp (disch := omega) only [go_sem, w64, wU, List.length_map, Nat.zero_add, g1, g2, wdR] <;> exact rfl) | exact rfl) ?_
  refine AW.regR rfl (by simp (maxSteps := 1000000) only [go_sem, List.length_map, Nat.zero_add, g1, g2, wdR] <;> exact rfl) (by first | (simp (disch := omega) only [go_sem, w64, wU, List.length_map, Nat.zero_add, g1, g2, wdR] <;> exact rfl) | exact rfl) ?_
  refine AW.seq ?_
  refine AW.regR rfl (by simp (maxSteps := 1000000) only [go_sem, List.length_map, Nat.zero_add, g1, g2, wdR] <;> exact rfl) (by first | (simp (disch := omega) only [go_sem, w64, wU, List.length_map, Nat.zero_add, g1, g2, wdR] <;> exact rfl) | exact rfl) ?_
  refine AW.block ?_
  refine AW.loopV (α := (Int)) (fun (i : (Int)) => [(5, .vs 0 0 D.length), (6, .pv (.int .i64 i))]) (fun (i : (Int)) => [.vec 1 ((putsD D (l.take i.toNat)).map wdR)]) (fun (i : (Int)) => (0 ≤ i) ∧ (i ≤ (l.length : Int))) (fun (i : (Int)) => ((l.length : Int) - i).toNat) 0 ?_ ?_ ?_
  · exact ⟨by omega, by omega⟩
  · refine Wk.subE ?_ ?_
    · rfl
    · simp (maxSteps := 1000000) (disch := omega) only [go_sem, w64, wU, List.length_map, Nat.zero_add, g1, g2, wdR]
  · rintro i hF _ ht _ hh
    simp only [updT, go_sem] at ht hh
    subst ht; subst hh
    obtain ⟨h1, h2⟩ := hF
    refine AW.seq ?_
    refine AW.regR rfl (by simp (maxSteps := 1000000) only [go_sem, List.length_map, Nat.zero_add, g1, g2, wdR] <;> exact rfl) (by first | (simp (disch := omega) only [go_sem, w64, wU, List.length_map, Nat.zero_add, g1, g2, wdR] <;> exact rfl) | exact rfl) ?_
    refine AW.cond (by simp (maxSteps := 1000000) only [go_sem, List.length_map, Nat.zero_add, g1, g2, wdR] <;> exact rfl) (fun hc1 => ?_) (fun hc1 => ?_)
    · try simp only [decide_eq_true_eq, decide_eq_false_iff_not, Bool.or_eq_true, Bool.or_eq_false_iff, Bool.and_eq_true, Bool.and_eq_false_imp, Bool.not_eq_true', Bool.not_eq_false'] at hc1
      have hr : (l.map pnR)[i.toNat]? = some [.int .i64 (l.getD i.toNat (0, 0, 0)).1, .int .u64 (l.getD i.toNat (0, 0, 0)).2.1, .int .i64 (l.getD i.toNat (0, 0, 0)).2.2] := pn_at ⟨h1, hc1⟩
      have g3 : 0 ≤ i := h1
      have g4 : i < (l.length : Int) := hc1
      have hpl : (putsD D (l.take i.toNat)).length = D.length := putsD_len _ _
      refine AW.skip ?_
      show AW _ _ _ _ _
      refine AW.seq ?_
      refine AW.block ?_
      refine AW.regR rfl (by simp (maxSteps := 1000000) only [go_sem, List.length_map, Nat.zero_add, g1, g2, wdR, hr, g3, g4, hpl] <;> exact rfl) (by first | (simp (disch := omega) only [go_sem, w64, wU, List.length_map, Nat.zero_add, g1, g2, wdR, hr, g3, g4, hpl] <;> exact rfl) | exact rfl) ?_
      refine AW.cond (by simp (maxSteps := 1000000) only [go_sem, List.length_map, Nat.zero_add, g1, g2, wdR, hr, g3, g4, hpl] <;> exact rfl) (fun hc2 => ?_) (fun hc2 => ?_)
      · try simp only [decide_eq_true_eq, decide_eq_false_iff_not, Bool.or_eq_true, Bool.or_eq_false_iff, Bool.and_eq_true, Bool.and_eq_false_imp, Bool.not_eq_true', Bool.not_eq_false'] at hc2
        have g5 : 0 ≤ (l.getD i.toNat (0, 0, 0)).1 := hc2.1
        have g6 : (l.getD i.toNat (0, 0, 0)).1 < (D.length : Int) := hc2.2
        have g7 : ((l.getD i.toNat (0, 0, 0)).1.toNat < D.length) = True := eq_true (by omega)
        have hrw : ((putsD D (l.take i.toNat)).map wdR)[(l.getD i.toNat (0, 0, 0)).1.toNat]? = some [.int .u64 ((putsD D (l.take i.toNat)).getD (l.getD i.toNat (0, 0, 0)).1.toNat 0)] := wd_at ⟨g5, by rw [hpl]; exact g6⟩
        have hpt : putsD D (l.take (i + 1).toNat) = (putsD D (l.take i.toNat)).set (l.getD i.toNat (0, 0, 0)).1.toNat (l.getD i.toNat (0, 0, 0)).2.1 := puts_yes g3 g4 g5 g6
        refine AW.regD1 follows (by kernel_rfl) ?_
        refine ARE.run1 (by simp (maxSteps := 1000000) only [go_sem, List.length_map, Nat.zero_add, g1, g2, wdR, hr, g3, g4, hpl, g5, g6, g7, hrw, hpt] <;> exact rfl) ?_
        refine ARE.fin1 [0, 0, 0, 6, 14, 30, 0, 0, 192, 448, 960, 2047, 4095] _ (by kernel_rfl) (by simp (maxSteps := 1000000) only [go_sem, List.length_map, Nat.zero_add, g1, g2, wdR, hr, g3, g4, hpl, g5, g6, g7, hrw, hpt] <;> exact rfl) (by kernel_rfl) (by first | (simp (disch := omega) only [go_sem, w64, wU, List.length_map, Nat.zero_add, g1, g2, wdR, hr, g3, g4, hpl, g5, g6, g7, hrw, hpt] <;> exact rfl) | exact rfl) ?_
        show AW _ _ _ _ _
        refine AW.regR1 rfl (by simp (maxSteps := 1000000) only [go_sem, List.length_map, Nat.zero_add, g1, g2, wdR, hr, g3, g4, hpl, g5, g6, g7, hrw, hpt] <;> exact rfl) (by first | (simp (disch := omega) only [go_sem, w64, wU, List.length_map, Nat.zero_add, g1, g2, wdR, hr, g3, g4, hpl, g5, g6, g7, hrw, hpt] <;> exact rfl) | exact rfl) ?_
        refine ⟨(i + 1), ?_, ?_, ?_⟩
        · (try dsimp only); omega
        · exact ⟨by omega, by omega⟩
        · refine Wk.subE ?_ ?_
          · simp (maxSteps := 1000000) (disch := omega) only [go_sem, w64, wU, List.length_map, Nat.zero_add, g1, g2, wdR, hr, g3, g4, hpl, g5, g6, g7, hrw, hpt]
          · simp (maxSteps := 1000000) (disch := omega) only [go_sem, w64, wU, List.length_map, Nat.zero_add, g1, g2, wdR, hr, g3, g4, hpl, g5, g6, g7, hrw, hpt]
      · try simp only [decide_eq_true_eq, decide_eq_false_iff_not, Bool.or_eq_true, Bool.or_eq_false_iff, Bool.and_eq_true, Bool.and_eq_false_imp, Bool.not_eq_true', Bool.not_eq_false'] at hc2
        have hpt : putsD D (l.take (i + 1).toNat) = putsD D (l.take i.toNat) := puts_no g3 g4 hc2
        refine AW.skip ?_
        show AW _ _ _ _ _
        refine AW.regR1 rfl (by simp (maxSteps := 1000000) only [go_sem, List.length_map, Nat.zero_add, g1, g2, wdR, hr, g3, g4, hpl, hpt] <;> exact rfl) (by first | (simp (disch := omega) only [go_sem, w64, wU, List.length_map, Nat.zero_add, g1, g2, wdR, hr, g3, g4, hpl, hpt] <;> exact rfl) | exact rfl) ?_
        refine ⟨(i + 1), ?_, ?_, ?_⟩
        · (try dsimp only); omega
        · exact ⟨by omega, by omega⟩
        · refine Wk.subE ?_ ?_
          · simp (maxSteps := 1000000) (disch := omega) only [go_sem, w64, wU, List.length_map, Nat.zero_add, g1, g2, wdR, hr, g3, g4, hpl, hpt]
          · simp (maxSteps := 1000000) (disch := omega) only [go_sem, w64, wU, List.length_map, Nat.zero_add, g1, g2, wdR, hr, g3, g4, hpl, hpt]
    · try simp only [decide_eq_true_eq, decide_eq_false_iff_not, Bool.or_eq_true, Bool.or_eq_false_iff, Bool.and_eq_true, Bool.and_eq_false_imp, Bool.not_eq_true', Bool.not_eq_false'] at hc1
      refine AW.exit ?_
      show AW _ _ _ _ _
      refine AW.regR rfl (by simp (maxSteps := 1000000) only [go_sem, List.length_map, Nat.zero_add, g1, g2, wdR] <;> exact rfl) (by first | (simp (disch := omega) only [go_sem, w64, wU, List.length_map, Nat.zero_add, g1, g2, wdR] <;> exact rfl) | exact rfl) ?_
      refine retK.fin rfl (by simp (maxSteps := 1000000) only [go_sem, List.length_map, Nat.zero_add, g1, g2, wdR] <;> exact rfl) (by simp (maxSteps := 1000000) only [go_sem, List.length_map, Nat.zero_add, g1, g2, wdR] <;> exact rfl) (.of ?_)
      have hi : i.toNat = l.length := by omega
      rw [hi, List.take_length]; exact congrArg (PV.lst false 1) (List.take_of_length_le (by simp [putsD_len]))
theorem c88 (D : List Int) (l : List Pn) (e : Int) (hs : Sm D l) : PC Try.prog 88 [devV D l e] (devV (putsD D l) [] 0) := by
  refine PC.start 9 Try.call88 Try.func88 rfl Try.ntmps88 Try.results88 (by simp only [go_sem]; exact rfl) fun z hz => ?_
  refine AW.regR rfl (by simp (maxSteps := 1000000) only [go_sem] <;> exact rfl) (by first | (simp (disch := omega) only [go_sem, w64, wU] <;> exact rfl) | exact rfl) ?_
  refine AW.regS rfl ?_
  refine ARN.run1 (by simp (maxSteps := 1000000) only [go_sem] <;> exact rfl) ?_
  refine ARN.pcall (fun hp => c129 D l false false hs) rfl (by simp (maxSteps := 1000000) only [go_sem] <;> exact rfl) (by simp only [go_sem]) (by simp (maxSteps := 1000000) only [go_sem] <;> exact rfl) ?_
  refine ARN.run1 (by simp (maxSteps := 1000000) only [go_sem] <;> exact rfl) ?_
  refine ARN.fin (by first | (simp (disch := omega) only [go_sem, w64, wU] <;> exact rfl) | exact rfl) ?_
  refine retK.fin rfl (by simp (maxSteps := 1000000) only [go_sem] <;> exact rfl) (by simp (maxSteps := 1000000) only [go_sem] <;> exact rfl) ?_
  exact Sub.agg ⟨Sub.refl _, Sub.nil0 0 3 true, Sub.refl _, trivial⟩
end Go.Ab.Try
