/- What is read is what was written last. -/
import Derived.Test.YtknlgjeeenkleaaDkH
import Derived.Test.YtknlgjeeenkleaaDN
namespace Go.Ab.Try
open Go.Proofs Go.Ab
set_option linter.unusedVariables false
set_option linter.unusedSimpArgs false
set_option maxRecDepth 100000
set_option maxHeartbeats 2000000 in
theorem c7 (D0 : List Int) (l : List Dd) (most : Int) (hd : ∀ x ∈ l, 0 ≤ x.2.1) : PC Try.prog 7 [.lst false 1 (D0.map wdR), .lst false 3 (l.map ddR), .int .i64 most] (.bool true) := by
  refine PC.start 140 Try.call7 Try.func7 rfl Try.ntmps7 Try.results7 (by simp only [go_sem]; exact rfl) fun z hz => ?_
  refine AW.regR rfl (by simp (maxSteps := 1000000) only [go_sem, List.length_map, Nat.zero_add, wdR, putsD_0] <;> exact rfl) (by simp (disch := omega) only [go_sem, w64, wU, List.length_map, Nat.zero_add, wdR, putsD_0] <;> exact rfl) ?_
  refine AW.seq ?_
  refine AW.regR rfl (by simp (maxSteps := 1000000) only [go_sem, List.length_map, Nat.zero_add, wdR, putsD_0] <;> exact rfl) (by simp (disch := omega) only [go_sem, w64, wU, List.length_map, Nat.zero_add, wdR, putsD_0] <;> exact rfl) ?_
  refine AW.cond (by simp (maxSteps := 1000000) only [go_sem, List.length_map, Nat.zero_add, wdR, putsD_0] <;> exact rfl) (fun hc1 => ?_) (fun hc1 => ?_)
  · try simp only [decide_eq_true_eq, decide_eq_false_iff_not, Bool.or_eq_true, Bool.or_eq_false_iff, Bool.and_eq_true, Bool.and_eq_false_imp, Bool.not_eq_true', Bool.not_eq_false'] at hc1
    refine AW.regS rfl ?_
    refine ARN.pcall (fun hp => c33) rfl (by simp (maxSteps := 1000000) only [go_sem, List.length_map, Nat.zero_add, wdR, putsD_0] <;> exact rfl) (by simp only [go_sem]) (by simp (maxSteps := 1000000) only [go_sem, List.length_map, Nat.zero_add, wdR, putsD_0] <;> exact rfl) ?_
    refine ARN.run1 (by simp (maxSteps := 1000000) only [go_sem, List.length_map, Nat.zero_add, wdR, putsD_0] <;> exact rfl) ?_
    refine ARN.fin (by simp (disch := omega) only [go_sem, w64, wU, List.length_map, Nat.zero_add, wdR, putsD_0] <;> exact rfl) ?_
    refine retK.fin rfl (by simp (maxSteps := 1000000) only [go_sem, List.length_map, Nat.zero_add, wdR, putsD_0] <;> exact rfl) (by simp (maxSteps := 1000000) only [go_sem, List.length_map, Nat.zero_add, wdR, putsD_0] <;> exact rfl) (.of ?_)
    rfl
  · try simp only [decide_eq_true_eq, decide_eq_false_iff_not, Bool.or_eq_true, Bool.or_eq_false_iff, Bool.and_eq_true, Bool.and_eq_false_imp, Bool.not_eq_true', Bool.not_eq_false'] at hc1
    refine AW.skip ?_
    show AW _ _ _ _ _
    have hn : D0.length ≤ 50 ∧ l.length ≤ 60 := by simp at hc1; omega
    have g1 : (D0.length * 8 ≤ 140737488355328) = True := eq_true (by omega)
    have g2 : (D0.length ≤ 140737488355328) = True := eq_true (by omega)
    refine AW.regS rfl ?_
    refine ARN.run1 (by simp (maxSteps := 1000000) only [go_sem, List.length_map, Nat.zero_add, wdR, putsD_0, g1, g2] <;> exact rfl) ?_
    refine ARN.pcall (fun hp => c44 D0 false (by omega)) rfl (by simp (maxSteps := 1000000) only [go_sem, List.length_map, Nat.zero_add, wdR, putsD_0, g1, g2] <;> exact rfl) (by simp only [go_sem]) (by simp (maxSteps := 1000000) only [go_sem, List.length_map, Nat.zero_add, wdR, putsD_0, g1, g2] <;> exact rfl) ?_
    refine ARN.run1 (by simp (maxSteps := 1000000) only [go_sem, List.length_map, Nat.zero_add, wdR, putsD_0, g1, g2] <;> exact rfl) ?_
    refine ARN.fin (by simp (disch := omega) only [go_sem, w64, wU, List.length_map, Nat.zero_add, wdR, putsD_0, g1, g2] <;> exact rfl) ?_
    refine AW.regR rfl (by simp (maxSteps := 1000000) only [go_sem, List.length_map, Nat.zero_add, wdR, putsD_0, g1, g2] <;> exact rfl) (by simp (disch := omega) only [go_sem, w64, wU, List.length_map, Nat.zero_add, wdR, putsD_0, g1, g2] <;> exact rfl) ?_
    refine AW.seq ?_
    refine AW.regR rfl (by simp (maxSteps := 1000000) only [go_sem, List.length_map, Nat.zero_add, wdR, putsD_0, g1, g2] <;> exact rfl) (by simp (disch := omega) only [go_sem, w64, wU, List.length_map, Nat.zero_add, wdR, putsD_0, g1, g2] <;> exact rfl) ?_
    refine AW.block ?_
    refine AW.loopV (α := (List Int) × (List Pn) × (Int) × (Int)) (fun ((D, L, E, i) : (List Int) × (List Pn) × (Int) × (Int)) => [(8, .vs 1 0 D0.length), (9, .pv (.int .i64 i))]) (fun ((D, L, E, i) : (List Int) × (List Pn) × (Int) × (Int)) => [.box [.pv (.lst false 1 (D.map wdR)), .pv (.lst false 3 (L.map pnR)), .pv (.int .i64 E)], .vec 1 ((putsD D L).map wdR)]) (fun ((D, L, E, i) : (List Int) × (List Pn) × (Int) × (Int)) => (0 ≤ i) ∧ (i ≤ (l.length : Int)) ∧ (Inv D0.length most i D L E)) (fun ((D, L, E, i) : (List Int) × (List Pn) × (Int) × (Int)) => ((l.length : Int) - i).toNat) (D0, [], 0, 0) ?_ ?_ ?_
    · exact ⟨by omega, by omega, Inv.zero _ _⟩
    · refine Wk.to [] [0, 1] hz (by decide) ?_ ?_
      · simp (maxSteps := 1000000) (disch := omega) only [go_sem, w64, wU, List.length_map, Nat.zero_add, wdR, putsD_0, g1, g2]
      · simp (maxSteps := 1000000) (disch := omega) only [go_sem, w64, wU, List.length_map, Nat.zero_add, wdR, putsD_0, g1, g2]
    · rintro ⟨D, L, E, i⟩ hF _ ht _ hh
      simp only [updT, go_sem] at ht hh
      subst ht; subst hh
      obtain ⟨h1, h2, h3⟩ := hF
      refine AW.seq ?_
      refine AW.regR rfl (by simp (maxSteps := 1000000) only [go_sem, List.length_map, Nat.zero_add, wdR, putsD_0, g1, g2] <;> exact rfl) (by simp (disch := omega) only [go_sem, w64, wU, List.length_map, Nat.zero_add, wdR, putsD_0, g1, g2] <;> exact rfl) ?_
      refine AW.cond (by simp (maxSteps := 1000000) only [go_sem, List.length_map, Nat.zero_add, wdR, putsD_0, g1, g2] <;> exact rfl) (fun hc2 => ?_) (fun hc2 => ?_)
      · try simp only [decide_eq_true_eq, decide_eq_false_iff_not, Bool.or_eq_true, Bool.or_eq_false_iff, Bool.and_eq_true, Bool.and_eq_false_imp, Bool.not_eq_true', Bool.not_eq_false'] at hc2
        have hr : (l.map ddR)[i.toNat]? = some [.int .i64 (l.getD i.toNat (0, 0, 0)).1, .int .u64 (l.getD i.toNat (0, 0, 0)).2.1, .int .u64 (l.getD i.toNat (0, 0, 0)).2.2] := dd_at ⟨h1, hc2⟩
        have g3 : 0 ≤ i := h1
        have g4 : i < (l.length : Int) := hc2
        have hDl : D.length = D0.length := h3.len
        have hpl : (putsD D L).length = D0.length := by rw [putsD_len]; exact h3.len
        have hb0 : 0 ≤ (l.getD i.toNat (0, 0, 0)).2.1 := hd _ (getD_mem (by omega))
        have hsm : Sm D L := ⟨by rw [h3.len]; omega, by have := h3.few; omega⟩
        refine AW.skip ?_
        show AW _ _ _ _ _
        refine AW.seq ?_
        refine AW.block ?_
        refine AW.regR rfl (by simp (maxSteps := 1000000) only [go_sem, List.length_map, Nat.zero_add, wdR, putsD_0, g1, g2, hr, g3, g4, hDl, hpl, hb0, hsm] <;> exact rfl) (by simp (disch := omega) only [go_sem, w64, wU, List.length_map, Nat.zero_add, wdR, putsD_0, g1, g2, hr, g3, g4, hDl, hpl, hb0, hsm] <;> exact rfl) ?_
        refine AW.regR rfl (by simp (maxSteps := 1000000) only [go_sem, List.length_map, Nat.zero_add, wdR, putsD_0, g1, g2, hr, g3, g4, hDl, hpl, hb0, hsm] <;> exact rfl) (by simp (disch := omega) only [go_sem, w64, wU, List.length_map, Nat.zero_add, wdR, putsD_0, g1, g2, hr, g3, g4, hDl, hpl, hb0, hsm] <;> exact rfl) ?_
        refine AW.regS rfl ?_
        refine ARN.run1 (by simp (maxSteps := 1000000) only [go_sem, List.length_map, Nat.zero_add, wdR, putsD_0, g1, g2, hr, g3, g4, hDl, hpl, hb0, hsm] <;> exact rfl) ?_
        refine ARN.pcall (fun hp => c46 D L E (l.getD i.toNat (0, 0, 0)).1 (l.getD i.toNat (0, 0, 0)).2.1 (l.getD i.toNat (0, 0, 0)).2.2 most hb0 hsm) rfl (by simp (maxSteps := 1000000) only [go_sem, List.length_map, Nat.zero_add, wdR, putsD_0, g1, g2, hr, g3, g4, hDl, hpl, hb0, hsm] <;> exact rfl) (by simp only [go_sem]) (by simp (maxSteps := 1000000) only [go_sem, List.length_map, Nat.zero_add, wdR, putsD_0, g1, g2, hr, g3, g4, hDl, hpl, hb0, hsm] <;> exact rfl) ?_
        refine ARN.run1 (by simp (maxSteps := 1000000) only [go_sem, List.length_map, Nat.zero_add, wdR, putsD_0, g1, g2, hr, g3, g4, hDl, hpl, hb0, hsm] <;> exact rfl) ?_
        refine ARN.fin (by simp (disch := omega) only [go_sem, w64, wU, List.length_map, Nat.zero_add, wdR, putsD_0, g1, g2, hr, g3, g4, hDl, hpl, hb0, hsm] <;> exact rfl) ?_
        refine AW.joinV (α := (List Int) × (List Pn) × (Int)) (fun ((D', L', E') : (List Int) × (List Pn) × (Int)) => [(12, .ptr 3 0)]) (fun ((D', L', E') : (List Int) × (List Pn) × (Int)) => [.box [.pv (.lst false 1 (D.map wdR)), .pv (.lst false 3 (L.map pnR)), .pv (.int .i64 E)], .vec 1 ((putsD D' L').map wdR), .gone, .box [.pv (.lst false 1 (D'.map wdR)), .pv (.lst false 3 (L'.map pnR)), .pv (.int .i64 E')]]) (fun ((D', L', E') : (List Int) × (List Pn) × (Int)) => (Inv D0.length most (i + 1) D' L' E')) ?_ ?_
        · skip
          refine AW.regR rfl (by simp (maxSteps := 1000000) only [go_sem, List.length_map, Nat.zero_add, wdR, putsD_0, g1, g2, hr, g3, g4, hDl, hpl, hb0, hsm] <;> exact rfl) (by simp (disch := omega) only [go_sem, w64, wU, List.length_map, Nat.zero_add, wdR, putsD_0, g1, g2, hr, g3, g4, hDl, hpl, hb0, hsm] <;> exact rfl) ?_
          refine AW.cond (by simp (maxSteps := 1000000) only [go_sem, List.length_map, Nat.zero_add, wdR, putsD_0, g1, g2, hr, g3, g4, hDl, hpl, hb0, hsm] <;> exact rfl) (fun hc3 => ?_) (fun hc3 => ?_)
          · try simp only [decide_eq_true_eq, decide_eq_false_iff_not, Bool.or_eq_true, Bool.or_eq_false_iff, Bool.and_eq_true, Bool.and_eq_false_imp, Bool.not_eq_true', Bool.not_eq_false'] at hc3
            have g5 : (l.getD i.toNat (0, 0, 0)).2.1 < (D0.length : Int) := hc3.1.2
            have hk0 : (l.getD i.toNat (0, 0, 0)).1 = 0 := hc3.1.1
            have hrw : ((putsD D L).map wdR)[(l.getD i.toNat (0, 0, 0)).2.1.toNat]? = some [.int .u64 ((putsD D L).getD (l.getD i.toNat (0, 0, 0)).2.1.toNat 0)] := wd_at ⟨hb0, by rw [hpl]; exact g5⟩
            have hpt : putsD (doDD D L 0) (doLL D L E 0 (l.getD i.toNat (0, 0, 0)).2.1 (l.getD i.toNat (0, 0, 0)).2.2 most) = (putsD D L).set (l.getD i.toNat (0, 0, 0)).2.1.toNat (l.getD i.toNat (0, 0, 0)).2.2 := want_yes hb0 (by rw [hDl]; exact g5) hc3.2
            refine AW.regR1 rfl (by simp (maxSteps := 1000000) only [go_sem, List.length_map, Nat.zero_add, wdR, putsD_0, g1, g2, hr, g3, g4, hDl, hpl, hb0, hsm, g5, hk0, hrw, hpt] <;> exact rfl) (by simp (disch := omega) only [go_sem, w64, wU, List.length_map, Nat.zero_add, wdR, putsD_0, g1, g2, hr, g3, g4, hDl, hpl, hb0, hsm, g5, hk0, hrw, hpt] <;> exact rfl) ?_
            refine ⟨(doDD D L (l.getD i.toNat (0, 0, 0)).1, doLL D L E (l.getD i.toNat (0, 0, 0)).1 (l.getD i.toNat (0, 0, 0)).2.1 (l.getD i.toNat (0, 0, 0)).2.2 most, doEE L E (l.getD i.toNat (0, 0, 0)).1), ?_, ?_⟩
            · exact h3.next ⟨by omega, by omega⟩ _ _ _
            · refine Wk.to [] [0, 1, 2, 3] hz (by decide) ?_ ?_
              · simp (maxSteps := 1000000) (disch := omega) only [go_sem, w64, wU, List.length_map, Nat.zero_add, wdR, putsD_0, g1, g2, hr, g3, g4, hDl, hpl, hb0, hsm, g5, hk0, hrw, hpt]
              · simp (maxSteps := 1000000) (disch := omega) only [go_sem, w64, wU, List.length_map, Nat.zero_add, wdR, putsD_0, g1, g2, hr, g3, g4, hDl, hpl, hb0, hsm, g5, hk0, hrw, hpt]
          · try simp only [decide_eq_true_eq, decide_eq_false_iff_not, Bool.or_eq_true, Bool.or_eq_false_iff, Bool.and_eq_true, Bool.and_eq_false_imp, Bool.not_eq_true', Bool.not_eq_false'] at hc3
            have hpt : putsD (doDD D L (l.getD i.toNat (0, 0, 0)).1) (doLL D L E (l.getD i.toNat (0, 0, 0)).1 (l.getD i.toNat (0, 0, 0)).2.1 (l.getD i.toNat (0, 0, 0)).2.2 most) = putsD D L := want_no (by rw [hDl]; exact fun hh => hc3 hh.1 hh.2)
            refine AW.skip ?_
            refine ⟨(doDD D L (l.getD i.toNat (0, 0, 0)).1, doLL D L E (l.getD i.toNat (0, 0, 0)).1 (l.getD i.toNat (0, 0, 0)).2.1 (l.getD i.toNat (0, 0, 0)).2.2 most, doEE L E (l.getD i.toNat (0, 0, 0)).1), ?_, ?_⟩
            · exact h3.next ⟨by omega, by omega⟩ _ _ _
            · refine Wk.to [] [0, 1, 2, 3] hz (by decide) ?_ ?_
              · simp (maxSteps := 1000000) (disch := omega) only [go_sem, w64, wU, List.length_map, Nat.zero_add, wdR, putsD_0, g1, g2, hr, g3, g4, hDl, hpl, hb0, hsm, hpt]
              · simp (maxSteps := 1000000) (disch := omega) only [go_sem, w64, wU, List.length_map, Nat.zero_add, wdR, putsD_0, g1, g2, hr, g3, g4, hDl, hpl, hb0, hsm, hpt]
        · rintro ⟨D', L', E'⟩ hF _ ht _ hh
          simp only [updT, go_sem] at ht hh
          subst ht; subst hh
          have hi := hF
          have hDl2 : D'.length = D0.length := hi.len
          have hpl2 : (putsD D' L').length = D0.length := by rw [putsD_len]; exact hi.len
          have hfew : L'.length ≤ 61 := by have := hi.few; omega
          have hsm2 : Sm D' L' := ⟨by rw [hi.len]; omega, by have := hi.few; omega⟩
          refine AW.regR rfl (by simp (maxSteps := 1000000) only [go_sem, List.length_map, Nat.zero_add, wdR, putsD_0, g1, g2, hr, g3, g4, hDl, hpl, hb0, hsm, hDl2, hpl2, hfew, hsm2] <;> exact rfl) (by simp (disch := omega) only [go_sem, w64, wU, List.length_map, Nat.zero_add, wdR, putsD_0, g1, g2, hr, g3, g4, hDl, hpl, hb0, hsm, hDl2, hpl2, hfew, hsm2] <;> exact rfl) ?_
          refine AW.seq ?_
          refine AW.regR rfl (by simp (maxSteps := 1000000) only [go_sem, List.length_map, Nat.zero_add, wdR, putsD_0, g1, g2, hr, g3, g4, hDl, hpl, hb0, hsm, hDl2, hpl2, hfew, hsm2] <;> exact rfl) (by simp (disch := omega) only [go_sem, w64, wU, List.length_map, Nat.zero_add, wdR, putsD_0, g1, g2, hr, g3, g4, hDl, hpl, hb0, hsm, hDl2, hpl2, hfew, hsm2] <;> exact rfl) ?_
          refine AW.block ?_
          refine AW.loopVh (α := (Int)) (fun (k : (Int)) => [(13, .pv (.int .i64 k))]) (fun (k : (Int)) => (0 ≤ k) ∧ (k ≤ (D0.length : Int))) (fun (k : (Int)) => ((D0.length : Int) - k).toNat) 0 ?_ ?_ ?_
          · exact ⟨by omega, by omega⟩
          · refine Wk.sub ?_
            simp (maxSteps := 1000000) (disch := omega) only [go_sem, w64, wU, List.length_map, Nat.zero_add, wdR, putsD_0, g1, g2, hr, g3, g4, hDl, hpl, hb0, hsm, hDl2, hpl2, hfew, hsm2]
          · rintro k hF _ ht
            simp only [updT, go_sem] at ht
            subst ht
            obtain ⟨h5, h6⟩ := hF
            refine AW.seq ?_
            refine AW.regR rfl (by simp (maxSteps := 1000000) only [go_sem, List.length_map, Nat.zero_add, wdR, putsD_0, g1, g2, hr, g3, g4, hDl, hpl, hb0, hsm, hDl2, hpl2, hfew, hsm2] <;> exact rfl) (by simp (disch := omega) only [go_sem, w64, wU, List.length_map, Nat.zero_add, wdR, putsD_0, g1, g2, hr, g3, g4, hDl, hpl, hb0, hsm, hDl2, hpl2, hfew, hsm2] <;> exact rfl) ?_
            refine AW.cond (by simp (maxSteps := 1000000) only [go_sem, List.length_map, Nat.zero_add, wdR, putsD_0, g1, g2, hr, g3, g4, hDl, hpl, hb0, hsm, hDl2, hpl2, hfew, hsm2] <;> exact rfl) (fun hc4 => ?_) (fun hc4 => ?_)
            · try simp only [decide_eq_true_eq, decide_eq_false_iff_not, Bool.or_eq_true, Bool.or_eq_false_iff, Bool.and_eq_true, Bool.and_eq_false_imp, Bool.not_eq_true', Bool.not_eq_false'] at hc4
              have g6 : 0 ≤ k := h5
              have g7 : k < (D0.length : Int) := hc4
              have hwk : IntKind.u64.wrap k = k := wU (by omega) (by omega)
              have hrk : ((putsD D' L').map wdR)[k.toNat]? = some [.int .u64 ((putsD D' L').getD k.toNat 0)] := wd_at ⟨h5, by rw [hpl2]; exact hc4⟩
              refine AW.skip ?_
              show AW _ _ _ _ _
              refine AW.seq ?_
              refine AW.block ?_
              refine AW.regS rfl ?_
              refine ARN.run1 (by simp (maxSteps := 1000000) only [go_sem, List.length_map, Nat.zero_add, wdR, putsD_0, g1, g2, hr, g3, g4, hDl, hpl, hb0, hsm, hDl2, hpl2, hfew, hsm2, g6, g7, hwk, hrk] <;> exact rfl) ?_
              refine ARN.pcall (fun hp => rd D' L' E' k h5 hsm2) rfl (by simp (maxSteps := 1000000) only [go_sem, List.length_map, Nat.zero_add, wdR, putsD_0, g1, g2, hr, g3, g4, hDl, hpl, hb0, hsm, hDl2, hpl2, hfew, hsm2, g6, g7, hwk, hrk] <;> exact rfl) (by simp only [go_sem]) (by simp (maxSteps := 1000000) only [go_sem, List.length_map, Nat.zero_add, wdR, putsD_0, g1, g2, hr, g3, g4, hDl, hpl, hb0, hsm, hDl2, hpl2, hfew, hsm2, g6, g7, hwk, hrk] <;> exact rfl) ?_
              refine ARN.run1 (by simp (maxSteps := 1000000) only [go_sem, List.length_map, Nat.zero_add, wdR, putsD_0, g1, g2, hr, g3, g4, hDl, hpl, hb0, hsm, hDl2, hpl2, hfew, hsm2, g6, g7, hwk, hrk] <;> exact rfl) ?_
              refine ARN.fin (by simp (disch := omega) only [go_sem, w64, wU, List.length_map, Nat.zero_add, wdR, putsD_0, g1, g2, hr, g3, g4, hDl, hpl, hb0, hsm, hDl2, hpl2, hfew, hsm2, g6, g7, hwk, hrk] <;> exact rfl) ?_
              refine AW.regR rfl (by simp (maxSteps := 1000000) only [go_sem, List.length_map, Nat.zero_add, wdR, putsD_0, g1, g2, hr, g3, g4, hDl, hpl, hb0, hsm, hDl2, hpl2, hfew, hsm2, g6, g7, hwk, hrk] <;> exact rfl) (by simp (disch := omega) only [go_sem, w64, wU, List.length_map, Nat.zero_add, wdR, putsD_0, g1, g2, hr, g3, g4, hDl, hpl, hb0, hsm, hDl2, hpl2, hfew, hsm2, g6, g7, hwk, hrk] <;> exact rfl) ?_
              refine AW.cond (by simp (maxSteps := 1000000) only [go_sem, List.length_map, Nat.zero_add, wdR, putsD_0, g1, g2, hr, g3, g4, hDl, hpl, hb0, hsm, hDl2, hpl2, hfew, hsm2, g6, g7, hwk, hrk] <;> exact rfl) (fun hc5 => ?_) (fun hc5 => ?_)
              · try simp only [decide_eq_true_eq, decide_eq_false_iff_not, Bool.or_eq_true, Bool.or_eq_false_iff, Bool.and_eq_true, Bool.and_eq_false_imp, Bool.not_eq_true', Bool.not_eq_false'] at hc5
                exfalso; rw [puts_get L' D' k ⟨h5, by omega⟩] at hc5; simp [rdO, rdV, hi.len, hc4] at hc5
              · try simp only [decide_eq_true_eq, decide_eq_false_iff_not, Bool.or_eq_true, Bool.or_eq_false_iff, Bool.and_eq_true, Bool.and_eq_false_imp, Bool.not_eq_true', Bool.not_eq_false'] at hc5
                refine AW.skip ?_
                show AW _ _ _ _ _
                refine AW.regR1 rfl (by simp (maxSteps := 1000000) only [go_sem, List.length_map, Nat.zero_add, wdR, putsD_0, g1, g2, hr, g3, g4, hDl, hpl, hb0, hsm, hDl2, hpl2, hfew, hsm2, g6, g7, hwk, hrk] <;> exact rfl) (by simp (disch := omega) only [go_sem, w64, wU, List.length_map, Nat.zero_add, wdR, putsD_0, g1, g2, hr, g3, g4, hDl, hpl, hb0, hsm, hDl2, hpl2, hfew, hsm2, g6, g7, hwk, hrk] <;> exact rfl) ?_
                refine ⟨(k + 1), ?_, ?_, ?_⟩
                · (try dsimp only); omega
                · exact ⟨by omega, by omega⟩
                · refine Wk.sub ?_
                  simp (maxSteps := 1000000) (disch := omega) only [go_sem, w64, wU, List.length_map, Nat.zero_add, wdR, putsD_0, g1, g2, hr, g3, g4, hDl, hpl, hb0, hsm, hDl2, hpl2, hfew, hsm2, g6, g7, hwk, hrk]
            · try simp only [decide_eq_true_eq, decide_eq_false_iff_not, Bool.or_eq_true, Bool.or_eq_false_iff, Bool.and_eq_true, Bool.and_eq_false_imp, Bool.not_eq_true', Bool.not_eq_false'] at hc4
              refine AW.exit ?_
              show AW _ _ _ _ _
              refine AW.seq ?_
              refine AW.regR rfl (by simp (maxSteps := 1000000) only [go_sem, List.length_map, Nat.zero_add, wdR, putsD_0, g1, g2, hr, g3, g4, hDl, hpl, hb0, hsm, hDl2, hpl2, hfew, hsm2] <;> exact rfl) (by simp (disch := omega) only [go_sem, w64, wU, List.length_map, Nat.zero_add, wdR, putsD_0, g1, g2, hr, g3, g4, hDl, hpl, hb0, hsm, hDl2, hpl2, hfew, hsm2] <;> exact rfl) ?_
              refine AW.cond (by simp (maxSteps := 1000000) only [go_sem, List.length_map, Nat.zero_add, wdR, putsD_0, g1, g2, hr, g3, g4, hDl, hpl, hb0, hsm, hDl2, hpl2, hfew, hsm2] <;> exact rfl) (fun hc6 => ?_) (fun hc6 => ?_)
              · try simp only [decide_eq_true_eq, decide_eq_false_iff_not, Bool.or_eq_true, Bool.or_eq_false_iff, Bool.and_eq_true, Bool.and_eq_false_imp, Bool.not_eq_true', Bool.not_eq_false'] at hc6
                exfalso; have := hi.mx; omega
              · try simp only [decide_eq_true_eq, decide_eq_false_iff_not, Bool.or_eq_true, Bool.or_eq_false_iff, Bool.and_eq_true, Bool.and_eq_false_imp, Bool.not_eq_true', Bool.not_eq_false'] at hc6
                refine AW.skip ?_
                show AW _ _ _ _ _
                refine AW.regR rfl (by simp (maxSteps := 1000000) only [go_sem, List.length_map, Nat.zero_add, wdR, putsD_0, g1, g2, hr, g3, g4, hDl, hpl, hb0, hsm, hDl2, hpl2, hfew, hsm2] <;> exact rfl) (by simp (disch := omega) only [go_sem, w64, wU, List.length_map, Nat.zero_add, wdR, putsD_0, g1, g2, hr, g3, g4, hDl, hpl, hb0, hsm, hDl2, hpl2, hfew, hsm2] <;> exact rfl) ?_
                refine AW.block ?_
                refine AW.loopVh (α := (Int)) (fun (m : (Int)) => [(16, .pv (.int .i64 m))]) (fun (m : (Int)) => (1 ≤ m)) (fun (m : (Int)) => ((L'.length : Int) - m).toNat) 1 ?_ ?_ ?_
                · omega
                · refine Wk.sub ?_
                  simp (maxSteps := 1000000) (disch := omega) only [go_sem, w64, wU, List.length_map, Nat.zero_add, wdR, putsD_0, g1, g2, hr, g3, g4, hDl, hpl, hb0, hsm, hDl2, hpl2, hfew, hsm2]
                · rintro m hF _ ht
                  simp only [updT, go_sem] at ht
                  subst ht
                  have h7 := hF
                  refine AW.seq ?_
                  refine AW.regR rfl (by simp (maxSteps := 1000000) only [go_sem, List.length_map, Nat.zero_add, wdR, putsD_0, g1, g2, hr, g3, g4, hDl, hpl, hb0, hsm, hDl2, hpl2, hfew, hsm2] <;> exact rfl) (by simp (disch := omega) only [go_sem, w64, wU, List.length_map, Nat.zero_add, wdR, putsD_0, g1, g2, hr, g3, g4, hDl, hpl, hb0, hsm, hDl2, hpl2, hfew, hsm2] <;> exact rfl) ?_
                  refine AW.cond (by simp (maxSteps := 1000000) only [go_sem, List.length_map, Nat.zero_add, wdR, putsD_0, g1, g2, hr, g3, g4, hDl, hpl, hb0, hsm, hDl2, hpl2, hfew, hsm2] <;> exact rfl) (fun hc7 => ?_) (fun hc7 => ?_)
                  · try simp only [decide_eq_true_eq, decide_eq_false_iff_not, Bool.or_eq_true, Bool.or_eq_false_iff, Bool.and_eq_true, Bool.and_eq_false_imp, Bool.not_eq_true', Bool.not_eq_false'] at hc7
                    have g8 : 0 ≤ m := by omega
                    have g9 : m < (L'.length : Int) := hc7
                    have hwm : IntKind.i64.wrap (m - 1) = m - 1 := w64 (by omega) (by omega)
                    have g10 : 0 ≤ m - 1 := by omega
                    have g11 : m - 1 < (L'.length : Int) := by omega
                    have hrm : (L'.map pnR)[m.toNat]? = some [.int .i64 (L'.getD m.toNat (0, 0, 0)).1, .int .u64 (L'.getD m.toNat (0, 0, 0)).2.1, .int .i64 (L'.getD m.toNat (0, 0, 0)).2.2] := pn_at ⟨g8, g9⟩
                    have hrn : (L'.map pnR)[(m - 1).toNat]? = some [.int .i64 (L'.getD (m - 1).toNat (0, 0, 0)).1, .int .u64 (L'.getD (m - 1).toNat (0, 0, 0)).2.1, .int .i64 (L'.getD (m - 1).toNat (0, 0, 0)).2.2] := pn_at ⟨g10, g11⟩
                    refine AW.skip ?_
                    show AW _ _ _ _ _
                    refine AW.seq ?_
                    refine AW.block ?_
                    refine AW.regDS follows (by kernel_rfl) ?_
                    refine ARE.run1 (by simp (maxSteps := 1000000) only [go_sem, List.length_map, Nat.zero_add, wdR, putsD_0, g1, g2, hr, g3, g4, hDl, hpl, hb0, hsm, hDl2, hpl2, hfew, hsm2, g8, g9, hwm, g10, g11, hrm, hrn] <;> exact rfl) ?_
                    refine ARE.fin [0, 1, 0, 7, 15, 31, 0, 64, 0, 256, 960, 1984, 4032, 8191, 16383, 32767, 65535, 32767, 262143, 524287, 1048575, 32767, 2129919, 8388607, 16777215] _ (by kernel_rfl) (by simp (maxSteps := 1000000) only [go_sem, List.length_map, Nat.zero_add, wdR, putsD_0, g1, g2, hr, g3, g4, hDl, hpl, hb0, hsm, hDl2, hpl2, hfew, hsm2, g8, g9, hwm, g10, g11, hrm, hrn] <;> exact rfl) (by kernel_rfl) (by simp (disch := omega) only [go_sem, w64, wU, List.length_map, Nat.zero_add, wdR, putsD_0, g1, g2, hr, g3, g4, hDl, hpl, hb0, hsm, hDl2, hpl2, hfew, hsm2, g8, g9, hwm, g10, g11, hrm, hrn] <;> exact rfl) ?_
                    refine AW.cond (by simp (maxSteps := 1000000) only [go_sem, List.length_map, Nat.zero_add, wdR, putsD_0, g1, g2, hr, g3, g4, hDl, hpl, hb0, hsm, hDl2, hpl2, hfew, hsm2, g8, g9, hwm, g10, g11, hrm, hrn] <;> exact rfl) (fun hc8 => ?_) (fun hc8 => ?_)
                    · try simp only [decide_eq_true_eq, decide_eq_false_iff_not, Bool.or_eq_true, Bool.or_eq_false_iff, Bool.and_eq_true, Bool.and_eq_false_imp, Bool.not_eq_true', Bool.not_eq_false'] at hc8
                      exfalso; have q1 := hi.srt (m - 1).toNat m.toNat (by omega) (by omega); have q2 := hi.up m.toNat (by omega); omega
                    · try simp only [decide_eq_true_eq, decide_eq_false_iff_not, Bool.or_eq_true, Bool.or_eq_false_iff, Bool.and_eq_true, Bool.and_eq_false_imp, Bool.not_eq_true', Bool.not_eq_false'] at hc8
                      refine AW.skip ?_
                      show AW _ _ _ _ _
                      refine AW.regR1 rfl (by simp (maxSteps := 1000000) only [go_sem, List.length_map, Nat.zero_add, wdR, putsD_0, g1, g2, hr, g3, g4, hDl, hpl, hb0, hsm, hDl2, hpl2, hfew, hsm2, g8, g9, hwm, g10, g11, hrm, hrn] <;> exact rfl) (by simp (disch := omega) only [go_sem, w64, wU, List.length_map, Nat.zero_add, wdR, putsD_0, g1, g2, hr, g3, g4, hDl, hpl, hb0, hsm, hDl2, hpl2, hfew, hsm2, g8, g9, hwm, g10, g11, hrm, hrn] <;> exact rfl) ?_
                      refine ⟨(m + 1), ?_, ?_, ?_⟩
                      · (try dsimp only); omega
                      · omega
                      · refine Wk.sub ?_
                        simp (maxSteps := 1000000) (disch := omega) only [go_sem, w64, wU, List.length_map, Nat.zero_add, wdR, putsD_0, g1, g2, hr, g3, g4, hDl, hpl, hb0, hsm, hDl2, hpl2, hfew, hsm2, g8, g9, hwm, g10, g11, hrm, hrn]
                  · try simp only [decide_eq_true_eq, decide_eq_false_iff_not, Bool.or_eq_true, Bool.or_eq_false_iff, Bool.and_eq_true, Bool.and_eq_false_imp, Bool.not_eq_true', Bool.not_eq_false'] at hc7
                    refine AW.exit ?_
                    show AW _ _ _ _ _
                    refine AW.regR1 rfl (by simp (maxSteps := 1000000) only [go_sem, List.length_map, Nat.zero_add, wdR, putsD_0, g1, g2, hr, g3, g4, hDl, hpl, hb0, hsm, hDl2, hpl2, hfew, hsm2] <;> exact rfl) (by simp (disch := omega) only [go_sem, w64, wU, List.length_map, Nat.zero_add, wdR, putsD_0, g1, g2, hr, g3, g4, hDl, hpl, hb0, hsm, hDl2, hpl2, hfew, hsm2] <;> exact rfl) ?_
                    refine ⟨(D', L', E', i + 1), ?_, ?_, ?_⟩
                    · (try dsimp only); omega
                    · exact ⟨by omega, by omega, hi⟩
                    · refine Wk.to [] [0, 1] hz (by decide) ?_ ?_
                      · simp (maxSteps := 1000000) (disch := omega) only [go_sem, w64, wU, List.length_map, Nat.zero_add, wdR, putsD_0, g1, g2, hr, g3, g4, hDl, hpl, hb0, hsm, hDl2, hpl2, hfew, hsm2]
                      · simp (maxSteps := 1000000) (disch := omega) only [go_sem, w64, wU, List.length_map, Nat.zero_add, wdR, putsD_0, g1, g2, hr, g3, g4, hDl, hpl, hb0, hsm, hDl2, hpl2, hfew, hsm2]
      · try simp only [decide_eq_true_eq, decide_eq_false_iff_not, Bool.or_eq_true, Bool.or_eq_false_iff, Bool.and_eq_true, Bool.and_eq_false_imp, Bool.not_eq_true', Bool.not_eq_false'] at hc2
        have hsm3 : Sm D L := ⟨by rw [h3.len]; omega, by have := h3.few; omega⟩
        have hpl3 : (putsD D L).length = D0.length := by rw [putsD_len]; exact h3.len
        have htk : List.take D0.length ((putsD D L).map wdR) = (putsD D L).map wdR := List.take_of_length_le (by simp [hpl3])
        refine AW.exit ?_
        show AW _ _ _ _ _
        refine AW.regS rfl ?_
        refine ARN.run1 (by simp (maxSteps := 1000000) only [go_sem, List.length_map, Nat.zero_add, wdR, putsD_0, g1, g2, hsm3, hpl3, htk] <;> exact rfl) ?_
        refine ARN.pcall (fun hp => c41 D L E hsm3) rfl (by simp (maxSteps := 1000000) only [go_sem, List.length_map, Nat.zero_add, wdR, putsD_0, g1, g2, hsm3, hpl3, htk] <;> exact rfl) (by simp only [go_sem]) (by simp (maxSteps := 1000000) only [go_sem, List.length_map, Nat.zero_add, wdR, putsD_0, g1, g2, hsm3, hpl3, htk] <;> exact rfl) ?_
        refine ARN.run1 (by simp (maxSteps := 1000000) only [go_sem, List.length_map, Nat.zero_add, wdR, putsD_0, g1, g2, hsm3, hpl3, htk] <;> exact rfl) ?_
        refine ARN.pcallB (fun hp => c47 (putsD D L) (putsD D L) false false (by omega) (by omega)) rfl rfl (by simp (maxSteps := 1000000) only [go_sem, List.length_map, Nat.zero_add, wdR, putsD_0, g1, g2, hsm3, hpl3, htk] <;> exact rfl) (by simp only [go_sem]) (by simp (maxSteps := 1000000) only [go_sem, List.length_map, Nat.zero_add, wdR, putsD_0, g1, g2, hsm3, hpl3, htk] <;> exact rfl) ?_
        refine ARN.run1 (by simp (maxSteps := 1000000) only [go_sem, List.length_map, Nat.zero_add, wdR, putsD_0, g1, g2, hsm3, hpl3, htk] <;> exact rfl) ?_
        refine ARN.pcall (fun hp => c33) rfl (by simp (maxSteps := 1000000) only [go_sem, List.length_map, Nat.zero_add, wdR, putsD_0, g1, g2, hsm3, hpl3, htk] <;> exact rfl) (by simp only [go_sem]) (by simp (maxSteps := 1000000) only [go_sem, List.length_map, Nat.zero_add, wdR, putsD_0, g1, g2, hsm3, hpl3, htk] <;> exact rfl) ?_
        refine ARN.run1 (by simp (maxSteps := 1000000) only [go_sem, List.length_map, Nat.zero_add, wdR, putsD_0, g1, g2, hsm3, hpl3, htk] <;> exact rfl) ?_
        refine ARN.fin (by simp (disch := omega) only [go_sem, w64, wU, List.length_map, Nat.zero_add, wdR, putsD_0, g1, g2, hsm3, hpl3, htk] <;> exact rfl) ?_
        refine retK.fin rfl (by simp (maxSteps := 1000000) only [go_sem, List.length_map, Nat.zero_add, wdR, putsD_0, g1, g2, hsm3, hpl3, htk] <;> exact rfl) (by simp (maxSteps := 1000000) only [go_sem, List.length_map, Nat.zero_add, wdR, putsD_0, g1, g2, hsm3, hpl3, htk] <;> exact rfl) (.of ?_)
        simp
end Go.Ab.Try
