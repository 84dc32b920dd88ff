/- What stands when all is flushed; sameness; a deed. -/
import Derived.Test.YtlgfbiepbneihaaDkF
namespace Go.Ab.Try
open Go.Proofs Go.Ab
set_option linter.unusedVariables false
set_option linter.unusedSimpArgs false
set_option maxRecDepth 100000
theorem c129 (D : List Int) (l : List Pn) (p q : Bool) (hs : Sm D l) : PC Try.prog 129 [.lst p 1 (D.map wdR), .lst q 3 (l.map pnR)] (.lst false 1 ((putsD D l).map wdR)) := by
  refine PC.start 44 Try.call129 Try.func129 rfl Try.ntmps129 Try.results129 (by simp only [go_sem]; exact rfl) fun z hz => ?_
  obtain ⟨hs1, hs2⟩ := hs
  have g1 : (D.length * 8 ≤ 140737488355328) = True := eq_true (by omega)
  have g2 : (D.length ≤ 140737488355328) = True := eq_true (by omega)
  refine AW.regR rfl (by simp (maxSteps := 1000000) only [go_sem, List.length_map, Nat.zero_add, g1, g2, wdR] <;> exact rfl) (by simp (disch := omega) only [go_sem, w64, wU, List.length_map, Nat.zero_add, g1, g2, wdR] <;> exact rfl) ?_
  refine AW.regR rfl (by simp (maxSteps := 1000000) only [go_sem, List.length_map, Nat.zero_add, g1, g2, wdR] <;> exact rfl) (by simp (disch := omega) only [go_sem, w64, wU, List.length_map, Nat.zero_add, g1, g2, wdR] <;> exact rfl) ?_
  refine AW.seq ?_
  refine AW.regR rfl (by simp (maxSteps := 1000000) only [go_sem, List.length_map, Nat.zero_add, g1, g2, wdR] <;> exact rfl) (by simp (disch := omega) only [go_sem, w64, wU, List.length_map, Nat.zero_add, g1, g2, wdR] <;> exact rfl) ?_
  refine AW.block ?_
  refine AW.loopV (α := (Int)) (fun (i : (Int)) => [(5, .vs 0 0 D.length), (6, .pv (.int .i64 i))]) (fun (i : (Int)) => [.vec 1 ((putsD D (l.take i.toNat)).map wdR)]) (fun (i : (Int)) => (0 ≤ i) ∧ (i ≤ (l.length : Int))) (fun (i : (Int)) => ((l.length : Int) - i).toNat) 0 ?_ ?_ ?_
  · exact ⟨by omega, by omega⟩
  · refine Wk.subE ?_ ?_
    · rfl
    · simp (maxSteps := 1000000) (disch := omega) only [go_sem, w64, wU, List.length_map, Nat.zero_add, g1, g2, wdR]
  · rintro i hF _ ht _ hh
    simp only [updT, go_sem] at ht hh
    subst ht; subst hh
    obtain ⟨h1, h2⟩ := hF
    refine AW.seq ?_
    refine AW.regR rfl (by simp (maxSteps := 1000000) only [go_sem, List.length_map, Nat.zero_add, g1, g2, wdR] <;> exact rfl) (by simp (disch := omega) only [go_sem, w64, wU, List.length_map, Nat.zero_add, g1, g2, wdR] <;> exact rfl) ?_
    refine AW.cond (by simp (maxSteps := 1000000) only [go_sem, List.length_map, Nat.zero_add, g1, g2, wdR] <;> exact rfl) (fun hc1 => ?_) (fun hc1 => ?_)
    · try simp only [decide_eq_true_eq, decide_eq_false_iff_not, Bool.or_eq_true, Bool.or_eq_false_iff, Bool.and_eq_true, Bool.and_eq_false_imp, Bool.not_eq_true', Bool.not_eq_false'] at hc1
      have hr : (l.map pnR)[i.toNat]? = some [.int .i64 (l.getD i.toNat (0, 0, 0)).1, .int .u64 (l.getD i.toNat (0, 0, 0)).2.1, .int .i64 (l.getD i.toNat (0, 0, 0)).2.2] := pn_at ⟨h1, hc1⟩
      have g3 : 0 ≤ i := h1
      have g4 : i < (l.length : Int) := hc1
      have hpl : (putsD D (l.take i.toNat)).length = D.length := putsD_len _ _
      refine AW.skip ?_
      show AW _ _ _ _ _
      refine AW.seq ?_
      refine AW.block ?_
      refine AW.regR rfl (by simp (maxSteps := 1000000) only [go_sem, List.length_map, Nat.zero_add, g1, g2, wdR, hr, g3, g4, hpl] <;> exact rfl) (by simp (disch := omega) only [go_sem, w64, wU, List.length_map, Nat.zero_add, g1, g2, wdR, hr, g3, g4, hpl] <;> exact rfl) ?_
      refine AW.cond (by simp (maxSteps := 1000000) only [go_sem, List.length_map, Nat.zero_add, g1, g2, wdR, hr, g3, g4, hpl] <;> exact rfl) (fun hc2 => ?_) (fun hc2 => ?_)
      · try simp only [decide_eq_true_eq, decide_eq_false_iff_not, Bool.or_eq_true, Bool.or_eq_false_iff, Bool.and_eq_true, Bool.and_eq_false_imp, Bool.not_eq_true', Bool.not_eq_false'] at hc2
        have g5 : 0 ≤ (l.getD i.toNat (0, 0, 0)).1 := hc2.1
        have g6 : (l.getD i.toNat (0, 0, 0)).1 < (D.length : Int) := hc2.2
        have g7 : ((l.getD i.toNat (0, 0, 0)).1.toNat < D.length) = True := eq_true (by omega)
        have hrw : ((putsD D (l.take i.toNat)).map wdR)[(l.getD i.toNat (0, 0, 0)).1.toNat]? = some [.int .u64 ((putsD D (l.take i.toNat)).getD (l.getD i.toNat (0, 0, 0)).1.toNat 0)] := wd_at ⟨g5, by rw [hpl]; exact g6⟩
        have hpt : putsD D (l.take (i + 1).toNat) = (putsD D (l.take i.toNat)).set (l.getD i.toNat (0, 0, 0)).1.toNat (l.getD i.toNat (0, 0, 0)).2.1 := puts_yes g3 g4 g5 g6
        refine AW.regD1 follows (by kernel_rfl) ?_
        refine ARE.run1 (by simp (maxSteps := 1000000) only [go_sem, List.length_map, Nat.zero_add, g1, g2, wdR, hr, g3, g4, hpl, g5, g6, g7, hrw, hpt] <;> exact rfl) ?_
        refine ARE.fin1 [0, 0, 0, 6, 14, 30, 0, 0, 192, 448, 960, 2047, 4095] _ (by kernel_rfl) (by simp (maxSteps := 1000000) only [go_sem, List.length_map, Nat.zero_add, g1, g2, wdR, hr, g3, g4, hpl, g5, g6, g7, hrw, hpt] <;> exact rfl) (by kernel_rfl) (by simp (disch := omega) only [go_sem, w64, wU, List.length_map, Nat.zero_add, g1, g2, wdR, hr, g3, g4, hpl, g5, g6, g7, hrw, hpt] <;> exact rfl) ?_
        show AW _ _ _ _ _
        refine AW.regR1 rfl (by simp (maxSteps := 1000000) only [go_sem, List.length_map, Nat.zero_add, g1, g2, wdR, hr, g3, g4, hpl, g5, g6, g7, hrw, hpt] <;> exact rfl) (by simp (disch := omega) only [go_sem, w64, wU, List.length_map, Nat.zero_add, g1, g2, wdR, hr, g3, g4, hpl, g5, g6, g7, hrw, hpt] <;> exact rfl) ?_
        refine ⟨(i + 1), ?_, ?_, ?_⟩
        · (try dsimp only); omega
        · exact ⟨by omega, by omega⟩
        · refine Wk.subE ?_ ?_
          · simp (maxSteps := 1000000) (disch := omega) only [go_sem, w64, wU, List.length_map, Nat.zero_add, g1, g2, wdR, hr, g3, g4, hpl, g5, g6, g7, hrw, hpt]
          · simp (maxSteps := 1000000) (disch := omega) only [go_sem, w64, wU, List.length_map, Nat.zero_add, g1, g2, wdR, hr, g3, g4, hpl, g5, g6, g7, hrw, hpt]
      · try simp only [decide_eq_true_eq, decide_eq_false_iff_not, Bool.or_eq_true, Bool.or_eq_false_iff, Bool.and_eq_true, Bool.and_eq_false_imp, Bool.not_eq_true', Bool.not_eq_false'] at hc2
        have hpt : putsD D (l.take (i + 1).toNat) = putsD D (l.take i.toNat) := puts_no g3 g4 hc2
        refine AW.skip ?_
        show AW _ _ _ _ _
        refine AW.regR1 rfl (by simp (maxSteps := 1000000) only [go_sem, List.length_map, Nat.zero_add, g1, g2, wdR, hr, g3, g4, hpl, hpt] <;> exact rfl) (by simp (disch := omega) only [go_sem, w64, wU, List.length_map, Nat.zero_add, g1, g2, wdR, hr, g3, g4, hpl, hpt] <;> exact rfl) ?_
        refine ⟨(i + 1), ?_, ?_, ?_⟩
        · (try dsimp only); omega
        · exact ⟨by omega, by omega⟩
        · refine Wk.subE ?_ ?_
          · simp (maxSteps := 1000000) (disch := omega) only [go_sem, w64, wU, List.length_map, Nat.zero_add, g1, g2, wdR, hr, g3, g4, hpl, hpt]
          · simp (maxSteps := 1000000) (disch := omega) only [go_sem, w64, wU, List.length_map, Nat.zero_add, g1, g2, wdR, hr, g3, g4, hpl, hpt]
    · try simp only [decide_eq_true_eq, decide_eq_false_iff_not, Bool.or_eq_true, Bool.or_eq_false_iff, Bool.and_eq_true, Bool.and_eq_false_imp, Bool.not_eq_true', Bool.not_eq_false'] at hc1
      refine AW.exit ?_
      show AW _ _ _ _ _
      refine AW.regR rfl (by simp (maxSteps := 1000000) only [go_sem, List.length_map, Nat.zero_add, g1, g2, wdR] <;> exact rfl) (by simp (disch := omega) only [go_sem, w64, wU, List.length_map, Nat.zero_add, g1, g2, wdR] <;> exact rfl) ?_
      refine retK.fin rfl (by simp (maxSteps := 1000000) only [go_sem, List.length_map, Nat.zero_add, g1, g2, wdR] <;> exact rfl) (by simp (maxSteps := 1000000) only [go_sem, List.length_map, Nat.zero_add, g1, g2, wdR] <;> exact rfl) (.of ?_)
      have hi : i.toNat = l.length := by omega
      rw [hi, List.take_length]; exact congrArg (PV.lst false 1) (List.take_of_length_le (by simp [putsD_len]))
theorem c88 (D : List Int) (l : List Pn) (e : Int) (hs : Sm D l) : PC Try.prog 88 [devV D l e] (devV (putsD D l) [] 0) := by
  refine PC.start 9 Try.call88 Try.func88 rfl Try.ntmps88 Try.results88 (by simp only [go_sem]; exact rfl) fun z hz => ?_
  refine AW.regR rfl (by simp (maxSteps := 1000000) only [go_sem] <;> exact rfl) (by simp (disch := omega) only [go_sem, w64, wU] <;> exact rfl) ?_
  refine AW.regS rfl ?_
  refine ARN.run1 (by simp (maxSteps := 1000000) only [go_sem] <;> exact rfl) ?_
  refine ARN.pcall (fun hp => c129 D l false false hs) rfl (by simp (maxSteps := 1000000) only [go_sem] <;> exact rfl) (by simp only [go_sem]) (by simp (maxSteps := 1000000) only [go_sem] <;> exact rfl) ?_
  refine ARN.run1 (by simp (maxSteps := 1000000) only [go_sem] <;> exact rfl) ?_
  refine ARN.fin (by simp (disch := omega) only [go_sem, w64, wU] <;> exact rfl) ?_
  refine retK.fin rfl (by simp (maxSteps := 1000000) only [go_sem] <;> exact rfl) (by simp (maxSteps := 1000000) only [go_sem] <;> exact rfl) ?_
  exact Sub.agg ⟨Sub.refl _, Sub.nil0 0 3 true, Sub.refl _, trivial⟩
theorem c116 (D : List Int) (l : List Pn) (e : Int) (hs : Sm D l) : PC Try.prog 116 [devV D l e] (devV (putsD D l) [] 0) := by
  refine PC.start 36 Try.call116 Try.func116 rfl Try.ntmps116 Try.results116 (by simp only [go_sem]; exact rfl) fun z hz => ?_
  obtain ⟨hs1, hs2⟩ := hs
  have g1 : (D.length * 8 ≤ 140737488355328) = True := eq_true (by omega)
  have g2 : (D.length ≤ 140737488355328) = True := eq_true (by omega)
  refine AW.regR rfl (by simp (maxSteps := 1000000) only [go_sem, List.length_map, Nat.zero_add, g1, g2, wdR, putsD_0] <;> exact rfl) (by simp (disch := omega) only [go_sem, w64, wU, List.length_map, Nat.zero_add, g1, g2, wdR, putsD_0] <;> exact rfl) ?_
  refine AW.regL ?_
  refine AWL.runG (by simp (maxSteps := 1000000) only [go_sem, List.length_map, Nat.zero_add, g1, g2, wdR, putsD_0] <;> exact rfl) ?_
  refine AWL.icall2 rfl (by simp (maxSteps := 1000000) only [go_sem, List.length_map, Nat.zero_add, g1, g2, wdR, putsD_0] <;> exact rfl) (by simp (maxSteps := 1000000) only [go_sem, List.length_map, Nat.zero_add, g1, g2, wdR, putsD_0] <;> exact rfl) Try.call140 Try.func140 rfl Try.ntmps140 Try.results140 (by simp (maxSteps := 1000000) only [go_sem, List.length_map, Nat.zero_add, g1, g2, wdR, putsD_0] <;> exact rfl) (by simp (maxSteps := 1000000) only [go_sem, List.length_map, Nat.zero_add, g1, g2, wdR, putsD_0] <;> exact rfl) (fun z1 hz1 => ?_)
  refine AW.regR rfl (by simp (maxSteps := 1000000) only [go_sem, List.length_map, Nat.zero_add, g1, g2, wdR, putsD_0] <;> exact rfl) (by simp (disch := omega) only [go_sem, w64, wU, List.length_map, Nat.zero_add, g1, g2, wdR, putsD_0] <;> exact rfl) ?_
  refine AW.regL ?_
  refine AWL.runG (by simp (maxSteps := 1000000) only [go_sem, List.length_map, Nat.zero_add, g1, g2, wdR, putsD_0] <;> exact rfl) ?_
  refine AWL.icall2 rfl (by simp (maxSteps := 1000000) only [go_sem, List.length_map, Nat.zero_add, g1, g2, wdR, putsD_0] <;> exact rfl) (by simp (maxSteps := 1000000) only [go_sem, List.length_map, Nat.zero_add, g1, g2, wdR, putsD_0] <;> exact rfl) Try.call136 Try.func136 rfl Try.ntmps136 Try.results136 (by simp (maxSteps := 1000000) only [go_sem, List.length_map, Nat.zero_add, g1, g2, wdR, putsD_0] <;> exact rfl) (by simp (maxSteps := 1000000) only [go_sem, List.length_map, Nat.zero_add, g1, g2, wdR, putsD_0] <;> exact rfl) (fun z2 hz2 => ?_)
  refine AW.regR rfl (by simp (maxSteps := 1000000) only [go_sem, List.length_map, Nat.zero_add, g1, g2, wdR, putsD_0] <;> exact rfl) (by simp (disch := omega) only [go_sem, w64, wU, List.length_map, Nat.zero_add, g1, g2, wdR, putsD_0] <;> exact rfl) ?_
  refine AW.seq ?_
  refine AW.regL ?_
  refine AWL.runG (by simp (maxSteps := 1000000) only [go_sem, List.length_map, Nat.zero_add, g1, g2, wdR, putsD_0] <;> exact rfl) ?_
  refine AWL.nilq (by simp (maxSteps := 1000000) only [go_sem, List.length_map, Nat.zero_add, g1, g2, wdR, putsD_0] <;> exact rfl) rfl (by simp (maxSteps := 1000000) only [go_sem, List.length_map, Nat.zero_add, g1, g2, wdR, putsD_0] <;> exact rfl) (by simp (maxSteps := 1000000) only [go_sem, List.length_map, Nat.zero_add, g1, g2, wdR, putsD_0] <;> exact rfl) (fun _ => by simp (maxSteps := 1000000) only [go_sem, List.length_map, Nat.zero_add, g1, g2, wdR, putsD_0] <;> exact rfl) (fun b hb => ?_)
  refine AWL.fin (by simp (disch := omega) only [go_sem, w64, wU, List.length_map, Nat.zero_add, g1, g2, wdR, putsD_0] <;> exact rfl) ?_
  refine AW.cond (by simp (maxSteps := 1000000) only [go_sem, List.length_map, Nat.zero_add, g1, g2, wdR, putsD_0] <;> exact rfl) (fun hc1 => ?_) (fun hc1 => ?_)
  · try simp only [decide_eq_true_eq, decide_eq_false_iff_not, Bool.or_eq_true, Bool.or_eq_false_iff, Bool.and_eq_true, Bool.and_eq_false_imp, Bool.not_eq_true', Bool.not_eq_false'] at hc1
    have hD0 : D = [] := by simpa using hb hc1
    refine AW.regR rfl (by simp (maxSteps := 1000000) only [go_sem, List.length_map, Nat.zero_add, g1, g2, wdR, putsD_0, hD0] <;> exact rfl) (by simp (disch := omega) only [go_sem, w64, wU, List.length_map, Nat.zero_add, g1, g2, wdR, putsD_0, hD0] <;> exact rfl) ?_
    refine icK.finQ rfl (by simp (maxSteps := 1000000) only [go_sem, List.length_map, Nat.zero_add, g1, g2, wdR, putsD_0, hD0] <;> exact rfl) (by simp (maxSteps := 1000000) only [go_sem, List.length_map, Nat.zero_add, g1, g2, wdR, putsD_0, hD0] <;> exact rfl) ?_
    refine AWL.runG (by simp (maxSteps := 1000000) only [go_sem, List.length_map, Nat.zero_add, g1, g2, wdR, putsD_0, hD0] <;> exact rfl) ?_
    refine AWL.fin (by simp (disch := omega) only [go_sem, w64, wU, List.length_map, Nat.zero_add, g1, g2, wdR, putsD_0, hD0] <;> exact rfl) ?_
    refine icK.finQ rfl (by simp (maxSteps := 1000000) only [go_sem, List.length_map, Nat.zero_add, g1, g2, wdR, putsD_0, hD0] <;> exact rfl) (by simp (maxSteps := 1000000) only [go_sem, List.length_map, Nat.zero_add, g1, g2, wdR, putsD_0, hD0] <;> exact rfl) ?_
    refine AWL.runG (by simp (maxSteps := 1000000) only [go_sem, List.length_map, Nat.zero_add, g1, g2, wdR, putsD_0, hD0] <;> exact rfl) ?_
    refine AWL.fin (by simp (disch := omega) only [go_sem, w64, wU, List.length_map, Nat.zero_add, g1, g2, wdR, putsD_0, hD0] <;> exact rfl) ?_
    refine AW.seq ?_
    refine AW.regR rfl (by simp (maxSteps := 1000000) only [go_sem, List.length_map, Nat.zero_add, g1, g2, wdR, putsD_0, hD0] <;> exact rfl) (by simp (disch := omega) only [go_sem, w64, wU, List.length_map, Nat.zero_add, g1, g2, wdR, putsD_0, hD0] <;> exact rfl) ?_
    refine AW.block ?_
    refine AW.loopV (α := (Int)) (fun (i : (Int)) => [(12, .pv (.int .i64 i))]) (fun (i : (Int)) => [.box [.pv (.lst false 1 (D.map wdR)), .pv (.lst false 3 (l.map pnR)), .pv (.int .i64 e)], .box [.pv (.lst true 0 []), .pv (.lst true 0 []), .pv (.int .i64 0)], .box [.pv (.lst true 0 []), .pv (.lst true 0 []), .pv (.int .i64 0)], .box [.pv (.lst true 0 []), .pv (.lst true 0 []), .pv (.int .i64 0)]]) (fun (i : (Int)) => (0 ≤ i) ∧ (i ≤ (l.length : Int))) (fun (i : (Int)) => ((l.length : Int) - i).toNat) 0 ?_ ?_ ?_
    · exact ⟨by omega, by omega⟩
    · refine Wk.to [] [0, 1, 2, 3] hz (by decide) ?_ ?_
      · simp (maxSteps := 1000000) (disch := omega) only [go_sem, w64, wU, List.length_map, Nat.zero_add, g1, g2, wdR, putsD_0, hD0]
      · simp (maxSteps := 1000000) (disch := omega) only [go_sem, w64, wU, List.length_map, Nat.zero_add, g1, g2, wdR, putsD_0, hD0]
    · rintro i hF _ ht _ hh
      simp only [updT, go_sem] at ht hh
      subst ht; subst hh
      obtain ⟨h1, h2⟩ := hF
      refine AW.regR rfl (by simp (maxSteps := 1000000) only [go_sem, List.length_map, Nat.zero_add, g1, g2, wdR, putsD_0, hD0] <;> exact rfl) (by simp (disch := omega) only [go_sem, w64, wU, List.length_map, Nat.zero_add, g1, g2, wdR, putsD_0, hD0] <;> exact rfl) ?_
      refine AW.seq ?_
      refine AW.cond (by simp (maxSteps := 1000000) only [go_sem, List.length_map, Nat.zero_add, g1, g2, wdR, putsD_0, hD0] <;> exact rfl) (fun hc2 => ?_) (fun hc2 => ?_)
      · try simp only [decide_eq_true_eq, decide_eq_false_iff_not, Bool.or_eq_true, Bool.or_eq_false_iff, Bool.and_eq_true, Bool.and_eq_false_imp, Bool.not_eq_true', Bool.not_eq_false'] at hc2
        have hr : (l.map pnR)[i.toNat]? = some [.int .i64 (l.getD i.toNat (0, 0, 0)).1, .int .u64 (l.getD i.toNat (0, 0, 0)).2.1, .int .i64 (l.getD i.toNat (0, 0, 0)).2.2] := pn_at ⟨h1, hc2⟩
        have g3 : 0 ≤ i := h1
        have g4 : i < (l.length : Int) := hc2
        refine AW.skip ?_
        show AW _ _ _ _ _
        refine AW.seq ?_
        refine AW.block ?_
        refine AW.regR rfl (by simp (maxSteps := 1000000) only [go_sem, List.length_map, Nat.zero_add, g1, g2, wdR, putsD_0, hD0, hr, g3, g4] <;> exact rfl) (by simp (disch := omega) only [go_sem, w64, wU, List.length_map, Nat.zero_add, g1, g2, wdR, putsD_0, hD0, hr, g3, g4] <;> exact rfl) ?_
        refine AW.regR rfl (by simp (maxSteps := 1000000) only [go_sem, List.length_map, Nat.zero_add, g1, g2, wdR, putsD_0, hD0, hr, g3, g4] <;> exact rfl) (by simp (disch := omega) only [go_sem, w64, wU, List.length_map, Nat.zero_add, g1, g2, wdR, putsD_0, hD0, hr, g3, g4] <;> exact rfl) ?_
        refine AW.cond (by simp (maxSteps := 1000000) only [go_sem, List.length_map, Nat.zero_add, g1, g2, wdR, putsD_0, hD0, hr, g3, g4] <;> exact rfl) (fun hc3 => ?_) (fun hc3 => ?_)
        · try simp only [decide_eq_true_eq, decide_eq_false_iff_not, Bool.or_eq_true, Bool.or_eq_false_iff, Bool.and_eq_true, Bool.and_eq_false_imp, Bool.not_eq_true', Bool.not_eq_false'] at hc3
          exfalso; simp at hc3; omega
        · try simp only [decide_eq_true_eq, decide_eq_false_iff_not, Bool.or_eq_true, Bool.or_eq_false_iff, Bool.and_eq_true, Bool.and_eq_false_imp, Bool.not_eq_true', Bool.not_eq_false'] at hc3
          refine AW.skip ?_
          show AW _ _ _ _ _
          refine AW.regR1 rfl (by simp (maxSteps := 1000000) only [go_sem, List.length_map, Nat.zero_add, g1, g2, wdR, putsD_0, hD0, hr, g3, g4] <;> exact rfl) (by simp (disch := omega) only [go_sem, w64, wU, List.length_map, Nat.zero_add, g1, g2, wdR, putsD_0, hD0, hr, g3, g4] <;> exact rfl) ?_
          refine ⟨(i + 1), ?_, ?_, ?_⟩
          · (try dsimp only); omega
          · exact ⟨by omega, by omega⟩
          · refine Wk.to [] [0, 1, 2, 3] hz (by decide) ?_ ?_
            · simp (maxSteps := 1000000) (disch := omega) only [go_sem, w64, wU, List.length_map, Nat.zero_add, g1, g2, wdR, putsD_0, hD0, hr, g3, g4]
            · simp (maxSteps := 1000000) (disch := omega) only [go_sem, w64, wU, List.length_map, Nat.zero_add, g1, g2, wdR, putsD_0, hD0, hr, g3, g4]
      · try simp only [decide_eq_true_eq, decide_eq_false_iff_not, Bool.or_eq_true, Bool.or_eq_false_iff, Bool.and_eq_true, Bool.and_eq_false_imp, Bool.not_eq_true', Bool.not_eq_false'] at hc2
        refine AW.exit ?_
        show AW _ _ _ _ _
        refine AW.regR rfl (by simp (maxSteps := 1000000) only [go_sem, List.length_map, Nat.zero_add, g1, g2, wdR, putsD_0, hD0] <;> exact rfl) (by simp (disch := omega) only [go_sem, w64, wU, List.length_map, Nat.zero_add, g1, g2, wdR, putsD_0, hD0] <;> exact rfl) ?_
        refine retK.fin rfl (by simp (maxSteps := 1000000) only [go_sem, List.length_map, Nat.zero_add, g1, g2, wdR, putsD_0, hD0] <;> exact rfl) (by simp (maxSteps := 1000000) only [go_sem, List.length_map, Nat.zero_add, g1, g2, wdR, putsD_0, hD0] <;> exact rfl) ?_
        rw [hD0, putsD_nil]; exact Sub.agg ⟨Sub.nil0 0 1 true, Sub.nil0 0 3 true, Sub.refl _, trivial⟩
  · try simp only [decide_eq_true_eq, decide_eq_false_iff_not, Bool.or_eq_true, Bool.or_eq_false_iff, Bool.and_eq_true, Bool.and_eq_false_imp, Bool.not_eq_true', Bool.not_eq_false'] at hc1
    refine AW.skip ?_
    show AW _ _ _ _ _
    refine AW.regR rfl (by simp (maxSteps := 1000000) only [go_sem, List.length_map, Nat.zero_add, g1, g2, wdR, putsD_0] <;> exact rfl) (by simp (disch := omega) only [go_sem, w64, wU, List.length_map, Nat.zero_add, g1, g2, wdR, putsD_0] <;> exact rfl) ?_
    refine icK.finQ rfl (by simp (maxSteps := 1000000) only [go_sem, List.length_map, Nat.zero_add, g1, g2, wdR, putsD_0] <;> exact rfl) (by simp (maxSteps := 1000000) only [go_sem, List.length_map, Nat.zero_add, g1, g2, wdR, putsD_0] <;> exact rfl) ?_
    refine AWL.runG (by simp (maxSteps := 1000000) only [go_sem, List.length_map, Nat.zero_add, g1, g2, wdR, putsD_0] <;> exact rfl) ?_
    refine AWL.fin (by simp (disch := omega) only [go_sem, w64, wU, List.length_map, Nat.zero_add, g1, g2, wdR, putsD_0] <;> exact rfl) ?_
    refine icK.finQ rfl (by simp (maxSteps := 1000000) only [go_sem, List.length_map, Nat.zero_add, g1, g2, wdR, putsD_0] <;> exact rfl) (by simp (maxSteps := 1000000) only [go_sem, List.length_map, Nat.zero_add, g1, g2, wdR, putsD_0] <;> exact rfl) ?_
    refine AWL.runG (by simp (maxSteps := 1000000) only [go_sem, List.length_map, Nat.zero_add, g1, g2, wdR, putsD_0] <;> exact rfl) ?_
    refine AWL.fin (by simp (disch := omega) only [go_sem, w64, wU, List.length_map, Nat.zero_add, g1, g2, wdR, putsD_0] <;> exact rfl) ?_
    refine AW.seq ?_
    refine AW.regR rfl (by simp (maxSteps := 1000000) only [go_sem, List.length_map, Nat.zero_add, g1, g2, wdR, putsD_0] <;> exact rfl) (by simp (disch := omega) only [go_sem, w64, wU, List.length_map, Nat.zero_add, g1, g2, wdR, putsD_0] <;> exact rfl) ?_
    refine AW.block ?_
    refine AW.loopV (α := (Int)) (fun (i : (Int)) => [(12, .pv (.int .i64 i))]) (fun (i : (Int)) => [.box [.pv (.lst false 1 (D.map wdR)), .pv (.lst false 3 (l.map pnR)), .pv (.int .i64 e)], .box [.pv (.lst true 0 []), .pv (.lst true 0 []), .pv (.int .i64 0)], .box [.vs 3 0 D.length, .pv (.lst true 0 []), .pv (.int .i64 0)], .vec 1 ((putsD D (l.take i.toNat)).map wdR), .box [.vs 3 0 D.length, .pv (.lst true 0 []), .pv (.int .i64 0)]]) (fun (i : (Int)) => (0 ≤ i) ∧ (i ≤ (l.length : Int))) (fun (i : (Int)) => ((l.length : Int) - i).toNat) 0 ?_ ?_ ?_
    · exact ⟨by omega, by omega⟩
    · refine Wk.to [] [0, 1, 2, 3, 4] hz (by decide) ?_ ?_
      · simp (maxSteps := 1000000) (disch := omega) only [go_sem, w64, wU, List.length_map, Nat.zero_add, g1, g2, wdR, putsD_0]
      · simp (maxSteps := 1000000) (disch := omega) only [go_sem, w64, wU, List.length_map, Nat.zero_add, g1, g2, wdR, putsD_0]
    · rintro i hF _ ht _ hh
      simp only [updT, go_sem] at ht hh
      subst ht; subst hh
      obtain ⟨h1, h2⟩ := hF
      refine AW.regR rfl (by simp (maxSteps := 1000000) only [go_sem, List.length_map, Nat.zero_add, g1, g2, wdR, putsD_0] <;> exact rfl) (by simp (disch := omega) only [go_sem, w64, wU, List.length_map, Nat.zero_add, g1, g2, wdR, putsD_0] <;> exact rfl) ?_
      refine AW.seq ?_
      refine AW.cond (by simp (maxSteps := 1000000) only [go_sem, List.length_map, Nat.zero_add, g1, g2, wdR, putsD_0] <;> exact rfl) (fun hc4 => ?_) (fun hc4 => ?_)
      · try simp only [decide_eq_true_eq, decide_eq_false_iff_not, Bool.or_eq_true, Bool.or_eq_false_iff, Bool.and_eq_true, Bool.and_eq_false_imp, Bool.not_eq_true', Bool.not_eq_false'] at hc4
        have hr : (l.map pnR)[i.toNat]? = some [.int .i64 (l.getD i.toNat (0, 0, 0)).1, .int .u64 (l.getD i.toNat (0, 0, 0)).2.1, .int .i64 (l.getD i.toNat (0, 0, 0)).2.2] := pn_at ⟨h1, hc4⟩
        have g3 : 0 ≤ i := h1
        have g4 : i < (l.length : Int) := hc4
        have hpl : (putsD D (l.take i.toNat)).length = D.length := putsD_len _ _
        refine AW.skip ?_
        show AW _ _ _ _ _
        refine AW.seq ?_
        refine AW.block ?_
        refine AW.regR rfl (by simp (maxSteps := 1000000) only [go_sem, List.length_map, Nat.zero_add, g1, g2, wdR, putsD_0, hr, g3, g4, hpl] <;> exact rfl) (by simp (disch := omega) only [go_sem, w64, wU, List.length_map, Nat.zero_add, g1, g2, wdR, putsD_0, hr, g3, g4, hpl] <;> exact rfl) ?_
        refine AW.regR rfl (by simp (maxSteps := 1000000) only [go_sem, List.length_map, Nat.zero_add, g1, g2, wdR, putsD_0, hr, g3, g4, hpl] <;> exact rfl) (by simp (disch := omega) only [go_sem, w64, wU, List.length_map, Nat.zero_add, g1, g2, wdR, putsD_0, hr, g3, g4, hpl] <;> exact rfl) ?_
        refine AW.cond (by simp (maxSteps := 1000000) only [go_sem, List.length_map, Nat.zero_add, g1, g2, wdR, putsD_0, hr, g3, g4, hpl] <;> exact rfl) (fun hc5 => ?_) (fun hc5 => ?_)
        · try simp only [decide_eq_true_eq, decide_eq_false_iff_not, Bool.or_eq_true, Bool.or_eq_false_iff, Bool.and_eq_true, Bool.and_eq_false_imp, Bool.not_eq_true', Bool.not_eq_false'] at hc5
          have g5 : 0 ≤ (l.getD i.toNat (0, 0, 0)).1 := hc5.1
          have g6 : (l.getD i.toNat (0, 0, 0)).1 < (D.length : Int) := hc5.2
          have hrw : ((putsD D (l.take i.toNat)).map wdR)[(l.getD i.toNat (0, 0, 0)).1.toNat]? = some [.int .u64 ((putsD D (l.take i.toNat)).getD (l.getD i.toNat (0, 0, 0)).1.toNat 0)] := wd_at ⟨g5, by rw [hpl]; exact g6⟩
          have hpt : putsD D (l.take (i + 1).toNat) = (putsD D (l.take i.toNat)).set (l.getD i.toNat (0, 0, 0)).1.toNat (l.getD i.toNat (0, 0, 0)).2.1 := puts_yes g3 g4 g5 g6
          refine AW.regR1 rfl (by simp (maxSteps := 1000000) only [go_sem, List.length_map, Nat.zero_add, g1, g2, wdR, putsD_0, hr, g3, g4, hpl, g5, g6, hrw, hpt] <;> exact rfl) (by simp (disch := omega) only [go_sem, w64, wU, List.length_map, Nat.zero_add, g1, g2, wdR, putsD_0, hr, g3, g4, hpl, g5, g6, hrw, hpt] <;> exact rfl) ?_
          show AW _ _ _ _ _
          refine AW.regR1 rfl (by simp (maxSteps := 1000000) only [go_sem, List.length_map, Nat.zero_add, g1, g2, wdR, putsD_0, hr, g3, g4, hpl, g5, g6, hrw, hpt] <;> exact rfl) (by simp (disch := omega) only [go_sem, w64, wU, List.length_map, Nat.zero_add, g1, g2, wdR, putsD_0, hr, g3, g4, hpl, g5, g6, hrw, hpt] <;> exact rfl) ?_
          refine ⟨(i + 1), ?_, ?_, ?_⟩
          · (try dsimp only); omega
          · exact ⟨by omega, by omega⟩
          · refine Wk.to [] [0, 1, 2, 3, 4] hz (by decide) ?_ ?_
            · simp (maxSteps := 1000000) (disch := omega) only [go_sem, w64, wU, List.length_map, Nat.zero_add, g1, g2, wdR, putsD_0, hr, g3, g4, hpl, g5, g6, hrw, hpt]
            · simp (maxSteps := 1000000) (disch := omega) only [go_sem, w64, wU, List.length_map, Nat.zero_add, g1, g2, wdR, putsD_0, hr, g3, g4, hpl, g5, g6, hrw, hpt]
        · try simp only [decide_eq_true_eq, decide_eq_false_iff_not, Bool.or_eq_true, Bool.or_eq_false_iff, Bool.and_eq_true, Bool.and_eq_false_imp, Bool.not_eq_true', Bool.not_eq_false'] at hc5
          have hpt : putsD D (l.take (i + 1).toNat) = putsD D (l.take i.toNat) := puts_no g3 g4 hc5
          refine AW.skip ?_
          show AW _ _ _ _ _
          refine AW.regR1 rfl (by simp (maxSteps := 1000000) only [go_sem, List.length_map, Nat.zero_add, g1, g2, wdR, putsD_0, hr, g3, g4, hpl, hpt] <;> exact rfl) (by simp (disch := omega) only [go_sem, w64, wU, List.length_map, Nat.zero_add, g1, g2, wdR, putsD_0, hr, g3, g4, hpl, hpt] <;> exact rfl) ?_
          refine ⟨(i + 1), ?_, ?_, ?_⟩
          · (try dsimp only); omega
          · exact ⟨by omega, by omega⟩
          · refine Wk.to [] [0, 1, 2, 3, 4] hz (by decide) ?_ ?_
            · simp (maxSteps := 1000000) (disch := omega) only [go_sem, w64, wU, List.length_map, Nat.zero_add, g1, g2, wdR, putsD_0, hr, g3, g4, hpl, hpt]
            · simp (maxSteps := 1000000) (disch := omega) only [go_sem, w64, wU, List.length_map, Nat.zero_add, g1, g2, wdR, putsD_0, hr, g3, g4, hpl, hpt]
      · try simp only [decide_eq_true_eq, decide_eq_false_iff_not, Bool.or_eq_true, Bool.or_eq_false_iff, Bool.and_eq_true, Bool.and_eq_false_imp, Bool.not_eq_true', Bool.not_eq_false'] at hc4
        refine AW.exit ?_
        show AW _ _ _ _ _
        refine AW.regR rfl (by simp (maxSteps := 1000000) only [go_sem, List.length_map, Nat.zero_add, g1, g2, wdR, putsD_0] <;> exact rfl) (by simp (disch := omega) only [go_sem, w64, wU, List.length_map, Nat.zero_add, g1, g2, wdR, putsD_0] <;> exact rfl) ?_
        refine retK.fin rfl (by simp (maxSteps := 1000000) only [go_sem, List.length_map, Nat.zero_add, g1, g2, wdR, putsD_0] <;> exact rfl) (by simp (maxSteps := 1000000) only [go_sem, List.length_map, Nat.zero_add, g1, g2, wdR, putsD_0] <;> exact rfl) ?_
        have hi : i.toNat = l.length := by omega
        rw [hi, List.take_length]; exact Sub.agg ⟨Sub.of (congrArg (PV.lst false 1) (List.take_of_length_le (by simp [putsD_len]))), Sub.nil0 0 3 true, Sub.refl _, trivial⟩
theorem c74 (D D' : List Int) (l l' : List Pn) (e e' : Int) (hs : Sm D l) (hs' : Sm D' l') : PC Try.prog 74 [devV D l e, devV D' l' e'] (.bool (sameD D l e D' l' e')) := by
  refine PC.start 24 Try.call74 Try.func74 rfl Try.ntmps74 Try.results74 (by simp only [go_sem]; exact rfl) fun z hz => ?_
  refine AW.regR rfl (by simp (maxSteps := 1000000) only [go_sem, List.length_map] <;> exact rfl) (by simp (disch := omega) only [go_sem, w64, wU, List.length_map] <;> exact rfl) ?_
  refine AW.regS rfl ?_
  refine ARN.run1 (by simp (maxSteps := 1000000) only [go_sem, List.length_map] <;> exact rfl) ?_
  refine ARN.pcall (fun hp => c73 D D' false false (by have := hs.1; omega) (by have := hs'.1; omega)) rfl (by simp (maxSteps := 1000000) only [go_sem, List.length_map] <;> exact rfl) (by simp only [go_sem]) (by simp (maxSteps := 1000000) only [go_sem, List.length_map] <;> exact rfl) ?_
  refine ARN.run1 (by simp (maxSteps := 1000000) only [go_sem, List.length_map] <;> exact rfl) ?_
  refine ARN.pcall (fun hp => c121 l l' false false (by have := hs.2; omega) (by have := hs'.2; omega)) rfl (by simp (maxSteps := 1000000) only [go_sem, List.length_map] <;> exact rfl) (by simp only [go_sem]) (by simp (maxSteps := 1000000) only [go_sem, List.length_map] <;> exact rfl) ?_
  refine ARN.run1 (by simp (maxSteps := 1000000) only [go_sem, List.length_map] <;> exact rfl) ?_
  refine ARN.fin (by simp (disch := omega) only [go_sem, w64, wU, List.length_map] <;> exact rfl) ?_
  refine retK.fin rfl (by simp (maxSteps := 1000000) only [go_sem, List.length_map] <;> exact rfl) (by simp (maxSteps := 1000000) only [go_sem, List.length_map] <;> exact rfl) (.of ?_)
  simp [sameD]
theorem c39 (D D' : List Int) (l l' : List Pn) (e e' : Int) (hs : Sm D l) (hs' : Sm D' l') : PC Try.prog 39 [devV D l e, devV D' l' e'] (.bool (sameD D l e D' l' e')) := by
  refine PC.start 46 Try.call39 Try.func39 rfl Try.ntmps39 Try.results39 (by simp only [go_sem]; exact rfl) fun z hz => ?_
  obtain ⟨hs1, hs2⟩ := hs
  obtain ⟨hs3, hs4⟩ := hs'
  refine AW.regR rfl (by simp (maxSteps := 1000000) only [go_sem, List.length_map] <;> exact rfl) (by simp (disch := omega) only [go_sem, w64, wU, List.length_map] <;> exact rfl) ?_
  refine AW.seq ?_
  refine AW.regS rfl ?_
  refine ARN.run1 (by simp (maxSteps := 1000000) only [go_sem, List.length_map] <;> exact rfl) ?_
  refine ARN.pcall (fun hp => c66 D D' false false (by omega) (by omega)) rfl (by simp (maxSteps := 1000000) only [go_sem, List.length_map] <;> exact rfl) (by simp only [go_sem]) (by simp (maxSteps := 1000000) only [go_sem, List.length_map] <;> exact rfl) ?_
  refine ARN.run1 (by simp (maxSteps := 1000000) only [go_sem, List.length_map] <;> exact rfl) ?_
  refine ARN.fin (by simp (disch := omega) only [go_sem, w64, wU, List.length_map] <;> exact rfl) ?_
  refine AW.cond (by simp (maxSteps := 1000000) only [go_sem, List.length_map] <;> exact rfl) (fun hc1 => ?_) (fun hc1 => ?_)
  · try simp only [decide_eq_true_eq, decide_eq_false_iff_not, Bool.or_eq_true, Bool.or_eq_false_iff, Bool.and_eq_true, Bool.and_eq_false_imp, Bool.not_eq_true', Bool.not_eq_false'] at hc1
    refine AW.regR rfl (by simp (maxSteps := 1000000) only [go_sem, List.length_map] <;> exact rfl) (by simp (disch := omega) only [go_sem, w64, wU, List.length_map] <;> exact rfl) ?_
    refine retK.fin rfl (by simp (maxSteps := 1000000) only [go_sem, List.length_map] <;> exact rfl) (by simp (maxSteps := 1000000) only [go_sem, List.length_map] <;> exact rfl) (.of ?_)
    simp only [sameD]; rcases hc1 with (h | h) | h
    · simp [h]
    · simp [h]
    · have : l ≠ l' := fun q => h (by rw [q])
      simp [this]
  · try simp only [decide_eq_true_eq, decide_eq_false_iff_not, Bool.or_eq_true, Bool.or_eq_false_iff, Bool.and_eq_true, Bool.and_eq_false_imp, Bool.not_eq_true', Bool.not_eq_false'] at hc1
    have hcx : (e = e' ∧ D = D') ∧ l.length = l'.length := by obtain ⟨q1, q2⟩ := hc1; exact ⟨q1, by omega⟩
    refine AW.skip ?_
    show AW _ _ _ _ _
    refine AW.seq ?_
    refine AW.regR rfl (by simp (maxSteps := 1000000) only [go_sem, List.length_map, hcx] <;> exact rfl) (by simp (disch := omega) only [go_sem, w64, wU, List.length_map, hcx] <;> exact rfl) ?_
    refine AW.block ?_
    refine AW.loopVh (α := (Int)) (fun (i : (Int)) => [(5, .pv (.int .i64 i))]) (fun (i : (Int)) => (0 ≤ i) ∧ (i ≤ (l.length : Int)) ∧ (∀ j : Nat, (j : Int) < i → l.getD j (0, 0, 0) = l'.getD j (0, 0, 0))) (fun (i : (Int)) => ((l.length : Int) - i).toNat) 0 ?_ ?_ ?_
    · exact ⟨by omega, by omega, fun j hj => by omega⟩
    · refine Wk.sub ?_
      simp (maxSteps := 1000000) (disch := omega) only [go_sem, w64, wU, List.length_map, hcx]
    · rintro i hF _ ht
      simp only [updT, go_sem] at ht
      subst ht
      obtain ⟨h1, h2, h3⟩ := hF
      refine AW.seq ?_
      refine AW.regR rfl (by simp (maxSteps := 1000000) only [go_sem, List.length_map, hcx] <;> exact rfl) (by simp (disch := omega) only [go_sem, w64, wU, List.length_map, hcx] <;> exact rfl) ?_
      refine AW.cond (by simp (maxSteps := 1000000) only [go_sem, List.length_map, hcx] <;> exact rfl) (fun hc2 => ?_) (fun hc2 => ?_)
      · try simp only [decide_eq_true_eq, decide_eq_false_iff_not, Bool.or_eq_true, Bool.or_eq_false_iff, Bool.and_eq_true, Bool.and_eq_false_imp, Bool.not_eq_true', Bool.not_eq_false'] at hc2
        have hr : (l.map pnR)[i.toNat]? = some [.int .i64 (l.getD i.toNat (0, 0, 0)).1, .int .u64 (l.getD i.toNat (0, 0, 0)).2.1, .int .i64 (l.getD i.toNat (0, 0, 0)).2.2] := pn_at ⟨h1, by omega⟩
        have hr2 : (l'.map pnR)[i.toNat]? = some [.int .i64 (l'.getD i.toNat (0, 0, 0)).1, .int .u64 (l'.getD i.toNat (0, 0, 0)).2.1, .int .i64 (l'.getD i.toNat (0, 0, 0)).2.2] := pn_at ⟨h1, by omega⟩
        have g1 : 0 ≤ i := h1
        have g2 : i < (l.length : Int) := by omega
        have g3 : i < (l'.length : Int) := by omega
        refine AW.skip ?_
        show AW _ _ _ _ _
        refine AW.seq ?_
        refine AW.block ?_
        refine AW.regDS follows (by kernel_rfl) ?_
        refine ARE.run1 (by simp (maxSteps := 1000000) only [go_sem, List.length_map, hcx, hr, hr2, g1, g2, g3] <;> exact rfl) ?_
        refine ARE.fin [0, 1, 0, 7, 15, 0, 32, 0, 224, 480, 1023] _ (by kernel_rfl) (by simp (maxSteps := 1000000) only [go_sem, List.length_map, hcx, hr, hr2, g1, g2, g3] <;> exact rfl) (by kernel_rfl) (by simp (disch := omega) only [go_sem, w64, wU, List.length_map, hcx, hr, hr2, g1, g2, g3] <;> exact rfl) ?_
        refine AW.cond (by simp (maxSteps := 1000000) only [go_sem, List.length_map, hcx, hr, hr2, g1, g2, g3] <;> exact rfl) (fun hc3 => ?_) (fun hc3 => ?_)
        · try simp only [decide_eq_true_eq, decide_eq_false_iff_not, Bool.or_eq_true, Bool.or_eq_false_iff, Bool.and_eq_true, Bool.and_eq_false_imp, Bool.not_eq_true', Bool.not_eq_false'] at hc3
          refine AW.regR rfl (by simp (maxSteps := 1000000) only [go_sem, List.length_map, hcx, hr, hr2, g1, g2, g3] <;> exact rfl) (by simp (disch := omega) only [go_sem, w64, wU, List.length_map, hcx, hr, hr2, g1, g2, g3] <;> exact rfl) ?_
          refine retK.fin rfl (by simp (maxSteps := 1000000) only [go_sem, List.length_map, hcx, hr, hr2, g1, g2, g3] <;> exact rfl) (by simp (maxSteps := 1000000) only [go_sem, List.length_map, hcx, hr, hr2, g1, g2, g3] <;> exact rfl) (.of ?_)
          have : l ≠ l' := fun e => by subst e; simp at hc3
          simp [this, sameD]
        · try simp only [decide_eq_true_eq, decide_eq_false_iff_not, Bool.or_eq_true, Bool.or_eq_false_iff, Bool.and_eq_true, Bool.and_eq_false_imp, Bool.not_eq_true', Bool.not_eq_false'] at hc3
          refine AW.skip ?_
          show AW _ _ _ _ _
          refine AW.regR1 rfl (by simp (maxSteps := 1000000) only [go_sem, List.length_map, hcx, hr, hr2, g1, g2, g3] <;> exact rfl) (by simp (disch := omega) only [go_sem, w64, wU, List.length_map, hcx, hr, hr2, g1, g2, g3] <;> exact rfl) ?_
          refine ⟨(i + 1), ?_, ?_, ?_⟩
          · (try dsimp only); omega
          · exact ⟨by omega, by omega, fun j hj => if e : (j : Int) < i then h3 j e else by (have hji : j = i.toNat := by omega); subst hji; exact pn_ext (by simpa using hc3)⟩
          · refine Wk.sub ?_
            simp (maxSteps := 1000000) (disch := omega) only [go_sem, w64, wU, List.length_map, hcx, hr, hr2, g1, g2, g3]
      · try simp only [decide_eq_true_eq, decide_eq_false_iff_not, Bool.or_eq_true, Bool.or_eq_false_iff, Bool.and_eq_true, Bool.and_eq_false_imp, Bool.not_eq_true', Bool.not_eq_false'] at hc2
        refine AW.exit ?_
        show AW _ _ _ _ _
        refine AW.regR rfl (by simp (maxSteps := 1000000) only [go_sem, List.length_map, hcx] <;> exact rfl) (by simp (disch := omega) only [go_sem, w64, wU, List.length_map, hcx] <;> exact rfl) ?_
        refine retK.fin rfl (by simp (maxSteps := 1000000) only [go_sem, List.length_map, hcx] <;> exact rfl) (by simp (maxSteps := 1000000) only [go_sem, List.length_map, hcx] <;> exact rfl) (.of ?_)
        have : l = l' := list_ext (d := (0, 0, 0)) hcx.2 (fun j hj => h3 j (by omega))
        simp [this, sameD, hcx.1.1, hcx.1.2]
end Go.Ab.Try
