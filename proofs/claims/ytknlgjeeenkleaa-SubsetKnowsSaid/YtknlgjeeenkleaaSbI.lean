/- Masks of a device that was written. -/
import Derived.Test.YtknlgjeeenkleaaSbH
import Derived.Test.YtknlgjeeenkleaaSM
namespace Go.Ab.Try
open Go.Proofs Go.Ab
set_option linter.unusedVariables false
set_option linter.unusedSimpArgs false
set_option maxRecDepth 100000
set_option maxHeartbeats 4000000 in
theorem c9 (D0 : List Int) (l : List Dd) (hd : ∀ x ∈ l, 0 ≤ x.2.1) : PC Try.prog 9 [.lst false 1 (D0.map wdR), .lst false 3 (l.map ddR)] (.bool true) := by
  refine PC.start 176 Try.call9 Try.func9 rfl Try.ntmps9 Try.results9 (by simp only [go_sem]; exact rfl) fun z hz => ?_
  refine AW.regR rfl (by simp (maxSteps := 1000000) only [go_sem, List.length_map, lastE_0] <;> exact rfl) (by simp (disch := omega) only [go_sem, w64, wU, List.length_map, lastE_0] <;> exact rfl) ?_
  refine AW.seq ?_
  refine AW.regR rfl (by simp (maxSteps := 1000000) only [go_sem, List.length_map, lastE_0] <;> exact rfl) (by simp (disch := omega) only [go_sem, w64, wU, List.length_map, lastE_0] <;> exact rfl) ?_
  refine AW.cond (by simp (maxSteps := 1000000) only [go_sem, List.length_map, lastE_0] <;> exact rfl) (fun hc1 => ?_) (fun hc1 => ?_)
  · try simp only [decide_eq_true_eq, decide_eq_false_iff_not, Bool.or_eq_true, Bool.or_eq_false_iff, Bool.and_eq_true, Bool.and_eq_false_imp, Bool.not_eq_true', Bool.not_eq_false'] at hc1
    refine AW.regS rfl ?_
    refine ARN.pcall (fun hp => c48) rfl (by simp (maxSteps := 1000000) only [go_sem, List.length_map, lastE_0] <;> exact rfl) (by simp only [go_sem]) (by simp (maxSteps := 1000000) only [go_sem, List.length_map, lastE_0] <;> exact rfl) ?_
    refine ARN.run1 (by simp (maxSteps := 1000000) only [go_sem, List.length_map, lastE_0] <;> exact rfl) ?_
    refine ARN.fin (by simp (disch := omega) only [go_sem, w64, wU, List.length_map, lastE_0] <;> exact rfl) ?_
    refine retK.fin rfl (by simp (maxSteps := 1000000) only [go_sem, List.length_map, lastE_0] <;> exact rfl) (by simp (maxSteps := 1000000) only [go_sem, List.length_map, lastE_0] <;> exact rfl) (.of ?_)
    rfl
  · try simp only [decide_eq_true_eq, decide_eq_false_iff_not, Bool.or_eq_true, Bool.or_eq_false_iff, Bool.and_eq_true, Bool.and_eq_false_imp, Bool.not_eq_true', Bool.not_eq_false'] at hc1
    refine AW.skip ?_
    show AW _ _ _ _ _
    have hn : D0.length ≤ 20 ∧ l.length ≤ 40 := by simp at hc1; omega
    refine AW.regS rfl ?_
    refine ARN.run1 (by simp (maxSteps := 1000000) only [go_sem, List.length_map, lastE_0] <;> exact rfl) ?_
    refine ARN.pcall (fun hp => c44 D0 false (by omega)) rfl (by simp (maxSteps := 1000000) only [go_sem, List.length_map, lastE_0] <;> exact rfl) (by simp only [go_sem]) (by simp (maxSteps := 1000000) only [go_sem, List.length_map, lastE_0] <;> exact rfl) ?_
    refine ARN.run1 (by simp (maxSteps := 1000000) only [go_sem, List.length_map, lastE_0] <;> exact rfl) ?_
    refine ARN.fin (by simp (disch := omega) only [go_sem, w64, wU, List.length_map, lastE_0] <;> exact rfl) ?_
    refine AW.seq ?_
    refine AW.regR rfl (by simp (maxSteps := 1000000) only [go_sem, List.length_map, lastE_0] <;> exact rfl) (by simp (disch := omega) only [go_sem, w64, wU, List.length_map, lastE_0] <;> exact rfl) ?_
    refine AW.block ?_
    refine AW.loopV (α := (List Int) × (List Pn) × (Int) × (Int)) (fun ((D, L, E, i) : (List Int) × (List Pn) × (Int) × (Int)) => [(6, .pv (.int .i64 i))]) (fun ((D, L, E, i) : (List Int) × (List Pn) × (Int) × (Int)) => [.box [.pv (.lst false 1 (D.map wdR)), .pv (.lst false 3 (L.map pnR)), .pv (.int .i64 E)]]) (fun ((D, L, E, i) : (List Int) × (List Pn) × (Int) × (Int)) => (0 ≤ i) ∧ (i ≤ (l.length : Int)) ∧ (Inv D0.length 8 i D L E)) (fun ((D, L, E, i) : (List Int) × (List Pn) × (Int) × (Int)) => ((l.length : Int) - i).toNat) (D0, [], 0, 0) ?_ ?_ ?_
    · exact ⟨by omega, by omega, Inv.zero _ _⟩
    · refine Wk.to [] [0] hz (by decide) ?_ ?_
      · simp (maxSteps := 1000000) (disch := omega) only [go_sem, w64, wU, List.length_map, lastE_0]
      · simp (maxSteps := 1000000) (disch := omega) only [go_sem, w64, wU, List.length_map, lastE_0]
    · rintro ⟨D, L, E, i⟩ hF _ ht _ hh
      simp only [updT, go_sem] at ht hh
      subst ht; subst hh
      obtain ⟨h1, h2, h3⟩ := hF
      refine AW.seq ?_
      refine AW.regR rfl (by simp (maxSteps := 1000000) only [go_sem, List.length_map, lastE_0] <;> exact rfl) (by simp (disch := omega) only [go_sem, w64, wU, List.length_map, lastE_0] <;> exact rfl) ?_
      refine AW.cond (by simp (maxSteps := 1000000) only [go_sem, List.length_map, lastE_0] <;> exact rfl) (fun hc2 => ?_) (fun hc2 => ?_)
      · try simp only [decide_eq_true_eq, decide_eq_false_iff_not, Bool.or_eq_true, Bool.or_eq_false_iff, Bool.and_eq_true, Bool.and_eq_false_imp, Bool.not_eq_true', Bool.not_eq_false'] at hc2
        have hr : (l.map ddR)[i.toNat]? = some [.int .i64 (l.getD i.toNat (0, 0, 0)).1, .int .u64 (l.getD i.toNat (0, 0, 0)).2.1, .int .u64 (l.getD i.toNat (0, 0, 0)).2.2] := dd_at ⟨h1, hc2⟩
        have g3 : 0 ≤ i := h1
        have g4 : i < (l.length : Int) := hc2
        have hsm : Sm D L := ⟨by rw [h3.len]; omega, by have := h3.few; omega⟩
        refine AW.skip ?_
        show AW _ _ _ _ _
        refine AW.seq ?_
        refine AW.block ?_
        refine AW.regD1 follows (by kernel_rfl) ?_
        refine ARE.run1 (by simp (maxSteps := 1000000) only [go_sem, List.length_map, lastE_0, hr, g3, g4, hsm] <;> exact rfl) ?_
        refine ARE.pcall (fun hp => c46 D L E (l.getD i.toNat (0, 0, 0)).1 (l.getD i.toNat (0, 0, 0)).2.1 (l.getD i.toNat (0, 0, 0)).2.2 8 (hd _ (getD_mem (by omega))) hsm) rfl (by simp (maxSteps := 1000000) only [go_sem, List.length_map, lastE_0, hr, g3, g4, hsm] <;> exact rfl) (by simp only [go_sem]) (by simp (maxSteps := 1000000) only [go_sem, List.length_map, lastE_0, hr, g3, g4, hsm] <;> exact rfl) ?_
        refine ARE.run1 (by simp (maxSteps := 1000000) only [go_sem, List.length_map, lastE_0, hr, g3, g4, hsm] <;> exact rfl) ?_
        refine ARE.fin1 [0, 0, 0, 6, 14, 31, 63] _ (by kernel_rfl) (by simp (maxSteps := 1000000) only [go_sem, List.length_map, lastE_0, hr, g3, g4, hsm] <;> exact rfl) (by kernel_rfl) (by simp (disch := omega) only [go_sem, w64, wU, List.length_map, lastE_0, hr, g3, g4, hsm] <;> exact rfl) ?_
        show AW _ _ _ _ _
        refine AW.regR1 rfl (by simp (maxSteps := 1000000) only [go_sem, List.length_map, lastE_0, hr, g3, g4, hsm] <;> exact rfl) (by simp (disch := omega) only [go_sem, w64, wU, List.length_map, lastE_0, hr, g3, g4, hsm] <;> exact rfl) ?_
        refine ⟨(doDD D L (l.getD i.toNat (0, 0, 0)).1, doLL D L E (l.getD i.toNat (0, 0, 0)).1 (l.getD i.toNat (0, 0, 0)).2.1 (l.getD i.toNat (0, 0, 0)).2.2 8, doEE L E (l.getD i.toNat (0, 0, 0)).1, i + 1), ?_, ?_, ?_⟩
        · (try dsimp only); omega
        · exact ⟨by omega, by omega, h3.next ⟨by omega, by omega⟩ _ _ _⟩
        · refine Wk.to [] [0] hz (by decide) ?_ ?_
          · simp (maxSteps := 1000000) (disch := omega) only [go_sem, w64, wU, List.length_map, lastE_0, hr, g3, g4, hsm]
          · simp (maxSteps := 1000000) (disch := omega) only [go_sem, w64, wU, List.length_map, lastE_0, hr, g3, g4, hsm]
      · try simp only [decide_eq_true_eq, decide_eq_false_iff_not, Bool.or_eq_true, Bool.or_eq_false_iff, Bool.and_eq_true, Bool.and_eq_false_imp, Bool.not_eq_true', Bool.not_eq_false'] at hc2
        refine AW.exit ?_
        show AW _ _ _ _ _
        have hgd : Good L E := good_of h3
        have hep : ∀ p ∈ L, I64 p.2.2 := eps_of h3 (by omega)
        have hf8 := hgd.few
        have hp8 := pow8 hf8
        refine AW.regR rfl (by simp (maxSteps := 1000000) only [go_sem, List.length_map, lastE_0] <;> exact rfl) (by simp (disch := omega) only [go_sem, w64, wU, List.length_map, lastE_0] <;> exact rfl) ?_
        refine AW.regS rfl ?_
        refine ARN.run1 (by simp (maxSteps := 1000000) only [go_sem, List.length_map, lastE_0] <;> exact rfl) ?_
        refine ARN.pcall (fun hp => c50 D L E (by omega) hep) rfl (by simp (maxSteps := 1000000) only [go_sem, List.length_map, lastE_0] <;> exact rfl) (by simp only [go_sem]) (by simp (maxSteps := 1000000) only [go_sem, List.length_map, lastE_0] <;> exact rfl) ?_
        refine ARN.run1 (by simp (maxSteps := 1000000) only [go_sem, List.length_map, lastE_0] <;> exact rfl) ?_
        refine ARN.fin (by simp (disch := omega) only [go_sem, w64, wU, List.length_map, lastE_0] <;> exact rfl) ?_
        refine AW.seq ?_
        have hms := mks_0 hf8
        have hq0 : ((mks L).map inR)[0]? = some [.int .i64 0] := mrow_0 hf8
        have hw1 : IntKind.u64.wrap (L.length : Int) = L.length := wU (by omega) (by omega)
        have hsh : ishl .i64 1 (L.length : Int) = ((2 ^ L.length : Nat) : Int) := (shl_i (i := (L.length : Int)) ⟨by omega, by omega⟩).trans (by simp)
        have hnl : ((L.length : Int) < 0) = False := eq_false (by omega)
        have hwl : IntKind.i64.wrap (((mks L).length : Int) - 1) = ((mks L).length : Int) - 1 := w64 (by omega) (by have := mks_len hf8; omega)
        have g1 : 0 ≤ ((mks L).length : Int) - 1 := by omega
        have g2 : ((mks L).length : Int) - 1 < ((mks L).length : Int) := by omega
        have hql : ((mks L).map inR)[(((mks L).length : Int) - 1).toNat]? = some [.int .i64 (((2 ^ L.length : Nat) : Int) - 1)] := mrow_l hf8
        have hwp : IntKind.i64.wrap (((2 ^ L.length : Nat) : Int) - 1) = ((2 ^ L.length : Nat) : Int) - 1 := wp8 hf8
        have g0 : 0 < ((mks L).length : Int) := by omega
        refine AW.regR rfl (by simp (maxSteps := 1000000) only [go_sem, List.length_map, lastE_0, hq0, hw1, hsh, hnl, hwl, g1, g2, hql, hwp, g0] <;> exact rfl) (by simp (disch := omega) only [go_sem, w64, wU, List.length_map, lastE_0, hq0, hw1, hsh, hnl, hwl, g1, g2, hql, hwp, g0] <;> exact rfl) ?_
        refine AW.cond (by simp (maxSteps := 1000000) only [go_sem, List.length_map, lastE_0, hq0, hw1, hsh, hnl, hwl, g1, g2, hql, hwp, g0] <;> exact rfl) (fun hc3 => ?_) (fun hc3 => ?_)
        · try simp only [decide_eq_true_eq, decide_eq_false_iff_not, Bool.or_eq_true, Bool.or_eq_false_iff, Bool.and_eq_true, Bool.and_eq_false_imp, Bool.not_eq_true', Bool.not_eq_false'] at hc3
          exfalso; have h2 : ((mks L).length : Int) ≤ ((2 ^ L.length : Nat) : Int) := Int.ofNat_le.2 (mks_len hf8); rcases hc3 with (h | h) | h <;> omega
        · try simp only [decide_eq_true_eq, decide_eq_false_iff_not, Bool.or_eq_true, Bool.or_eq_false_iff, Bool.and_eq_true, Bool.and_eq_false_imp, Bool.not_eq_true', Bool.not_eq_false'] at hc3
          refine AW.skip ?_
          show AW _ _ _ _ _
          refine AW.seq ?_
          refine AW.regR rfl (by simp (maxSteps := 1000000) only [go_sem, List.length_map, lastE_0, hq0, hw1, hsh, hnl, hwl, g1, g2, hql, hwp, g0] <;> exact rfl) (by simp (disch := omega) only [go_sem, w64, wU, List.length_map, lastE_0, hq0, hw1, hsh, hnl, hwl, g1, g2, hql, hwp, g0] <;> exact rfl) ?_
          refine AW.block ?_
          refine AW.loopVh (α := (Int)) (fun (j : (Int)) => [(9, .pv (.int .i64 j))]) (fun (j : (Int)) => (0 ≤ j) ∧ (j ≤ ((mks L).length : Int))) (fun (j : (Int)) => (((mks L).length : Int) - j).toNat) 0 ?_ ?_ ?_
          · exact ⟨by omega, by omega⟩
          · refine Wk.sub ?_
            simp (maxSteps := 1000000) (disch := omega) only [go_sem, w64, wU, List.length_map, lastE_0, hq0, hw1, hsh, hnl, hwl, g1, g2, hql, hwp, g0]
          · rintro j hF _ ht
            simp only [updT, go_sem] at ht
            subst ht
            obtain ⟨h4, h5⟩ := hF
            refine AW.seq ?_
            refine AW.regR rfl (by simp (maxSteps := 1000000) only [go_sem, List.length_map, lastE_0, hq0, hw1, hsh, hnl, hwl, g1, g2, hql, hwp, g0] <;> exact rfl) (by simp (disch := omega) only [go_sem, w64, wU, List.length_map, lastE_0, hq0, hw1, hsh, hnl, hwl, g1, g2, hql, hwp, g0] <;> exact rfl) ?_
            refine AW.cond (by simp (maxSteps := 1000000) only [go_sem, List.length_map, lastE_0, hq0, hw1, hsh, hnl, hwl, g1, g2, hql, hwp, g0] <;> exact rfl) (fun hc4 => ?_) (fun hc4 => ?_)
            · try simp only [decide_eq_true_eq, decide_eq_false_iff_not, Bool.or_eq_true, Bool.or_eq_false_iff, Bool.and_eq_true, Bool.and_eq_false_imp, Bool.not_eq_true', Bool.not_eq_false'] at hc4
              have g3 : 0 ≤ j := h4
              have g4 : j < ((mks L).length : Int) := hc4
              have hrj : ((mks L).map inR)[j.toNat]? = some [.int .i64 ((mks L).getD j.toNat 0)] := in_at ⟨h4, hc4⟩
              have hx : 0 ≤ ((mks L).getD j.toNat 0) ∧ ((mks L).getD j.toNat 0) < ((2 ^ L.length : Nat) : Int) ∧ okB L ((mks L).getD j.toNat 0) = true := mks_at hf8 (by omega)
              refine AW.skip ?_
              show AW _ _ _ _ _
              refine AW.seq ?_
              refine AW.block ?_
              refine AW.regR rfl (by simp (maxSteps := 1000000) only [go_sem, List.length_map, lastE_0, hq0, hw1, hsh, hnl, hwl, g1, g2, hql, hwp, g0, g3, g4, hrj, hx] <;> exact rfl) (by simp (disch := omega) only [go_sem, w64, wU, List.length_map, lastE_0, hq0, hw1, hsh, hnl, hwl, g1, g2, hql, hwp, g0, g3, g4, hrj, hx] <;> exact rfl) ?_
              refine AW.seq ?_
              refine AW.regR rfl (by simp (maxSteps := 1000000) only [go_sem, List.length_map, lastE_0, hq0, hw1, hsh, hnl, hwl, g1, g2, hql, hwp, g0, g3, g4, hrj, hx] <;> exact rfl) (by simp (disch := omega) only [go_sem, w64, wU, List.length_map, lastE_0, hq0, hw1, hsh, hnl, hwl, g1, g2, hql, hwp, g0, g3, g4, hrj, hx] <;> exact rfl) ?_
              refine AW.block ?_
              refine AW.loopVh (α := (Int)) (fun (k : (Int)) => [(10, .pv (.int .i64 (lastE L ((mks L).getD j.toNat 0) k.toNat))), (11, .pv (.int .i64 k))]) (fun (k : (Int)) => (0 ≤ k) ∧ (k ≤ (L.length : Int))) (fun (k : (Int)) => ((L.length : Int) - k).toNat) 0 ?_ ?_ ?_
              · exact ⟨by omega, by omega⟩
              · refine Wk.sub ?_
                simp (maxSteps := 1000000) (disch := omega) only [go_sem, w64, wU, List.length_map, lastE_0, hq0, hw1, hsh, hnl, hwl, g1, g2, hql, hwp, g0, g3, g4, hrj, hx]
              · rintro k hF _ ht
                simp only [updT, go_sem] at ht
                subst ht
                obtain ⟨h6, h7⟩ := hF
                refine AW.seq ?_
                refine AW.regR rfl (by simp (maxSteps := 1000000) only [go_sem, List.length_map, lastE_0, hq0, hw1, hsh, hnl, hwl, g1, g2, hql, hwp, g0, g3, g4, hrj, hx] <;> exact rfl) (by simp (disch := omega) only [go_sem, w64, wU, List.length_map, lastE_0, hq0, hw1, hsh, hnl, hwl, g1, g2, hql, hwp, g0, g3, g4, hrj, hx] <;> exact rfl) ?_
                refine AW.cond (by simp (maxSteps := 1000000) only [go_sem, List.length_map, lastE_0, hq0, hw1, hsh, hnl, hwl, g1, g2, hql, hwp, g0, g3, g4, hrj, hx] <;> exact rfl) (fun hc5 => ?_) (fun hc5 => ?_)
                · try simp only [decide_eq_true_eq, decide_eq_false_iff_not, Bool.or_eq_true, Bool.or_eq_false_iff, Bool.and_eq_true, Bool.and_eq_false_imp, Bool.not_eq_true', Bool.not_eq_false'] at hc5
                  have hrk : (L.map pnR)[k.toNat]? = some [.int .i64 (L.getD k.toNat (0, 0, 0)).1, .int .u64 (L.getD k.toNat (0, 0, 0)).2.1, .int .i64 (L.getD k.toNat (0, 0, 0)).2.2] := pn_at ⟨h6, hc5⟩
                  have g5 : 0 ≤ k := h6
                  have g6 : k < (L.length : Int) := hc5
                  have g7 : (k < 0) = False := eq_false (by omega)
                  have hwk : IntKind.u64.wrap k = k := wU (by omega) (by omega)
                  have hsk : ishr .i64 ((mks L).getD j.toNat 0) k = ((mks L).getD j.toNat 0) / 2 ^ k.toNat := shr_i ⟨by omega, by omega⟩
                  have htm : (((mks L).getD j.toNat 0) / 2 ^ k.toNat).tmod 2 = ((mks L).getD j.toNat 0) / 2 ^ k.toNat % 2 := tm_2 hx.1
                  refine AW.skip ?_
                  show AW _ _ _ _ _
                  refine AW.seq ?_
                  refine AW.block ?_
                  refine AW.regR rfl (by simp (maxSteps := 1000000) only [go_sem, List.length_map, lastE_0, hq0, hw1, hsh, hnl, hwl, g1, g2, hql, hwp, g0, g3, g4, hrj, hx, hrk, g5, g6, g7, hwk, hsk, htm] <;> exact rfl) (by simp (disch := omega) only [go_sem, w64, wU, List.length_map, lastE_0, hq0, hw1, hsh, hnl, hwl, g1, g2, hql, hwp, g0, g3, g4, hrj, hx, hrk, g5, g6, g7, hwk, hsk, htm] <;> exact rfl) ?_
                  refine AW.cond (by simp (maxSteps := 1000000) only [go_sem, List.length_map, lastE_0, hq0, hw1, hsh, hnl, hwl, g1, g2, hql, hwp, g0, g3, g4, hrj, hx, hrk, g5, g6, g7, hwk, hsk, htm] <;> exact rfl) (fun hc6 => ?_) (fun hc6 => ?_)
                  · try simp only [decide_eq_true_eq, decide_eq_false_iff_not, Bool.or_eq_true, Bool.or_eq_false_iff, Bool.and_eq_true, Bool.and_eq_false_imp, Bool.not_eq_true', Bool.not_eq_false'] at hc6
                    have hle : lastE L ((mks L).getD j.toNat 0) (k + 1).toNat = (L.getD k.toNat (0, 0, 0)).2.2 := lastE_yes h6 (decide_eq_true hc6)
                    refine AW.regR1 rfl (by simp (maxSteps := 1000000) only [go_sem, List.length_map, lastE_0, hq0, hw1, hsh, hnl, hwl, g1, g2, hql, hwp, g0, g3, g4, hrj, hx, hrk, g5, g6, g7, hwk, hsk, htm, hle] <;> exact rfl) (by simp (disch := omega) only [go_sem, w64, wU, List.length_map, lastE_0, hq0, hw1, hsh, hnl, hwl, g1, g2, hql, hwp, g0, g3, g4, hrj, hx, hrk, g5, g6, g7, hwk, hsk, htm, hle] <;> exact rfl) ?_
                    show AW _ _ _ _ _
                    refine AW.regR1 rfl (by simp (maxSteps := 1000000) only [go_sem, List.length_map, lastE_0, hq0, hw1, hsh, hnl, hwl, g1, g2, hql, hwp, g0, g3, g4, hrj, hx, hrk, g5, g6, g7, hwk, hsk, htm, hle] <;> exact rfl) (by simp (disch := omega) only [go_sem, w64, wU, List.length_map, lastE_0, hq0, hw1, hsh, hnl, hwl, g1, g2, hql, hwp, g0, g3, g4, hrj, hx, hrk, g5, g6, g7, hwk, hsk, htm, hle] <;> exact rfl) ?_
                    refine ⟨(k + 1), ?_, ?_, ?_⟩
                    · (try dsimp only); omega
                    · exact ⟨by omega, by omega⟩
                    · refine Wk.sub ?_
                      simp (maxSteps := 1000000) (disch := omega) only [go_sem, w64, wU, List.length_map, lastE_0, hq0, hw1, hsh, hnl, hwl, g1, g2, hql, hwp, g0, g3, g4, hrj, hx, hrk, g5, g6, g7, hwk, hsk, htm, hle]
                  · try simp only [decide_eq_true_eq, decide_eq_false_iff_not, Bool.or_eq_true, Bool.or_eq_false_iff, Bool.and_eq_true, Bool.and_eq_false_imp, Bool.not_eq_true', Bool.not_eq_false'] at hc6
                    have hle : lastE L ((mks L).getD j.toNat 0) (k + 1).toNat = lastE L ((mks L).getD j.toNat 0) k.toNat := lastE_no h6 (decide_eq_false hc6)
                    refine AW.skip ?_
                    show AW _ _ _ _ _
                    refine AW.regR1 rfl (by simp (maxSteps := 1000000) only [go_sem, List.length_map, lastE_0, hq0, hw1, hsh, hnl, hwl, g1, g2, hql, hwp, g0, g3, g4, hrj, hx, hrk, g5, g6, g7, hwk, hsk, htm, hle] <;> exact rfl) (by simp (disch := omega) only [go_sem, w64, wU, List.length_map, lastE_0, hq0, hw1, hsh, hnl, hwl, g1, g2, hql, hwp, g0, g3, g4, hrj, hx, hrk, g5, g6, g7, hwk, hsk, htm, hle] <;> exact rfl) ?_
                    refine ⟨(k + 1), ?_, ?_, ?_⟩
                    · (try dsimp only); omega
                    · exact ⟨by omega, by omega⟩
                    · refine Wk.sub ?_
                      simp (maxSteps := 1000000) (disch := omega) only [go_sem, w64, wU, List.length_map, lastE_0, hq0, hw1, hsh, hnl, hwl, g1, g2, hql, hwp, g0, g3, g4, hrj, hx, hrk, g5, g6, g7, hwk, hsk, htm, hle]
                · try simp only [decide_eq_true_eq, decide_eq_false_iff_not, Bool.or_eq_true, Bool.or_eq_false_iff, Bool.and_eq_true, Bool.and_eq_false_imp, Bool.not_eq_true', Bool.not_eq_false'] at hc5
                  refine AW.exit ?_
                  show AW _ _ _ _ _
                  refine AW.regR rfl (by simp (maxSteps := 1000000) only [go_sem, List.length_map, lastE_0, hq0, hw1, hsh, hnl, hwl, g1, g2, hql, hwp, g0, g3, g4, hrj, hx] <;> exact rfl) (by simp (disch := omega) only [go_sem, w64, wU, List.length_map, lastE_0, hq0, hw1, hsh, hnl, hwl, g1, g2, hql, hwp, g0, g3, g4, hrj, hx] <;> exact rfl) ?_
                  refine AW.block ?_
                  refine AW.loopVh (α := (Int)) (fun (q : (Int)) => [(12, .pv (.int .i64 q))]) (fun (q : (Int)) => (0 ≤ q) ∧ (q ≤ (L.length : Int))) (fun (q : (Int)) => ((L.length : Int) - q).toNat) 0 ?_ ?_ ?_
                  · exact ⟨by omega, by omega⟩
                  · refine Wk.sub ?_
                    simp (maxSteps := 1000000) (disch := omega) only [go_sem, w64, wU, List.length_map, lastE_0, hq0, hw1, hsh, hnl, hwl, g1, g2, hql, hwp, g0, g3, g4, hrj, hx]
                  · rintro q hF _ ht
                    simp only [updT, go_sem] at ht
                    subst ht
                    obtain ⟨h8, h9⟩ := hF
                    refine AW.seq ?_
                    refine AW.regR rfl (by simp (maxSteps := 1000000) only [go_sem, List.length_map, lastE_0, hq0, hw1, hsh, hnl, hwl, g1, g2, hql, hwp, g0, g3, g4, hrj, hx] <;> exact rfl) (by simp (disch := omega) only [go_sem, w64, wU, List.length_map, lastE_0, hq0, hw1, hsh, hnl, hwl, g1, g2, hql, hwp, g0, g3, g4, hrj, hx] <;> exact rfl) ?_
                    refine AW.cond (by simp (maxSteps := 1000000) only [go_sem, List.length_map, lastE_0, hq0, hw1, hsh, hnl, hwl, g1, g2, hql, hwp, g0, g3, g4, hrj, hx] <;> exact rfl) (fun hc7 => ?_) (fun hc7 => ?_)
                    · try simp only [decide_eq_true_eq, decide_eq_false_iff_not, Bool.or_eq_true, Bool.or_eq_false_iff, Bool.and_eq_true, Bool.and_eq_false_imp, Bool.not_eq_true', Bool.not_eq_false'] at hc7
                      have hrq : (L.map pnR)[q.toNat]? = some [.int .i64 (L.getD q.toNat (0, 0, 0)).1, .int .u64 (L.getD q.toNat (0, 0, 0)).2.1, .int .i64 (L.getD q.toNat (0, 0, 0)).2.2] := pn_at ⟨h8, hc7⟩
                      have g8 : 0 ≤ q := h8
                      have g9 : q < (L.length : Int) := hc7
                      have g10 : (q < 0) = False := eq_false (by omega)
                      have hwq : IntKind.u64.wrap q = q := wU (by omega) (by omega)
                      have hsq : ishr .i64 ((mks L).getD j.toNat 0) q = ((mks L).getD j.toNat 0) / 2 ^ q.toNat := shr_i ⟨by omega, by omega⟩
                      have htq : (((mks L).getD j.toNat 0) / 2 ^ q.toNat).tmod 2 = ((mks L).getD j.toNat 0) / 2 ^ q.toNat % 2 := tm_2 hx.1
                      have hs1 : ishl .i64 1 q = ((2 ^ q.toNat : Nat) : Int) := shl_i ⟨by omega, by omega⟩
                      have hws : IntKind.i64.wrap (((mks L).getD j.toNat 0) - ((2 ^ q.toNat : Nat) : Int)) = ((mks L).getD j.toNat 0) - ((2 ^ q.toNat : Nat) : Int) := ws8 hf8 hx.1 hx.2.1 h8 (by omega)
                      refine AW.skip ?_
                      show AW _ _ _ _ _
                      refine AW.seq ?_
                      refine AW.block ?_
                      refine AW.regR rfl (by simp (maxSteps := 1000000) only [go_sem, List.length_map, lastE_0, hq0, hw1, hsh, hnl, hwl, g1, g2, hql, hwp, g0, g3, g4, hrj, hx, hrq, g8, g9, g10, hwq, hsq, htq, hs1, hws] <;> exact rfl) (by simp (disch := omega) only [go_sem, w64, wU, List.length_map, lastE_0, hq0, hw1, hsh, hnl, hwl, g1, g2, hql, hwp, g0, g3, g4, hrj, hx, hrq, g8, g9, g10, hwq, hsq, htq, hs1, hws] <;> exact rfl) ?_
                      refine AW.regDS follows (by kernel_rfl) ?_
                      refine ARE.run1 (by simp (maxSteps := 1000000) only [go_sem, List.length_map, lastE_0, hq0, hw1, hsh, hnl, hwl, g1, g2, hql, hwp, g0, g3, g4, hrj, hx, hrq, g8, g9, g10, hwq, hsq, htq, hs1, hws] <;> exact rfl) ?_
                      refine ARE.pcall (fun hp => c52 D L E (((mks L).getD j.toNat 0) - ((2 ^ q.toNat : Nat) : Int)) (by omega) hep) rfl (by simp (maxSteps := 1000000) only [go_sem, List.length_map, lastE_0, hq0, hw1, hsh, hnl, hwl, g1, g2, hql, hwp, g0, g3, g4, hrj, hx, hrq, g8, g9, g10, hwq, hsq, htq, hs1, hws] <;> exact rfl) (by simp only [go_sem]) (by simp (maxSteps := 1000000) only [go_sem, List.length_map, lastE_0, hq0, hw1, hsh, hnl, hwl, g1, g2, hql, hwp, g0, g3, g4, hrj, hx, hrq, g8, g9, g10, hwq, hsq, htq, hs1, hws] <;> exact rfl) ?_
                      refine ARE.run1 (by simp (maxSteps := 1000000) only [go_sem, List.length_map, lastE_0, hq0, hw1, hsh, hnl, hwl, g1, g2, hql, hwp, g0, g3, g4, hrj, hx, hrq, g8, g9, g10, hwq, hsq, htq, hs1, hws] <;> exact rfl) ?_
                      refine ARE.fin [0, 1, 0, 7, 15, 31, 0, 127, 255, 511, 1023, 2047, 4095, 8191, 16383, 32767, 65535, 32767, 262143, 524287, 1048575, 32767, 4194303, 8388607, 16777215, 33554431, 33554431, 33554431, 234881023, 503316479, 33554431, 1107296255, 3254779903, 8556380159, 17179869183, 34359738367, 68719476735, 137438953471] _ (by kernel_rfl) (by simp (maxSteps := 1000000) only [go_sem, List.length_map, lastE_0, hq0, hw1, hsh, hnl, hwl, g1, g2, hql, hwp, g0, g3, g4, hrj, hx, hrq, g8, g9, g10, hwq, hsq, htq, hs1, hws] <;> exact rfl) (by kernel_rfl) (by simp (disch := omega) only [go_sem, w64, wU, List.length_map, lastE_0, hq0, hw1, hsh, hnl, hwl, g1, g2, hql, hwp, g0, g3, g4, hrj, hx, hrq, g8, g9, g10, hwq, hsq, htq, hs1, hws] <;> exact rfl) ?_
                      refine AW.cond (by simp (maxSteps := 1000000) only [go_sem, List.length_map, lastE_0, hq0, hw1, hsh, hnl, hwl, g1, g2, hql, hwp, g0, g3, g4, hrj, hx, hrq, g8, g9, g10, hwq, hsq, htq, hs1, hws] <;> exact rfl) (fun hc8 => ?_) (fun hc8 => ?_)
                      · try simp only [decide_eq_true_eq, decide_eq_false_iff_not, Bool.or_eq_true, Bool.or_eq_false_iff, Bool.and_eq_true, Bool.and_eq_false_imp, Bool.not_eq_true', Bool.not_eq_false'] at hc8
                        exact bad_8 hgd hx.1 hx.2.1 hx.2.2 h8 hc7 (by omega) hc8
                      · try simp only [decide_eq_true_eq, decide_eq_false_iff_not, Bool.or_eq_true, Bool.or_eq_false_iff, Bool.and_eq_true, Bool.and_eq_false_imp, Bool.not_eq_true', Bool.not_eq_false'] at hc8
                        refine AW.skip ?_
                        show AW _ _ _ _ _
                        refine AW.regR1 rfl (by simp (maxSteps := 1000000) only [go_sem, List.length_map, lastE_0, hq0, hw1, hsh, hnl, hwl, g1, g2, hql, hwp, g0, g3, g4, hrj, hx, hrq, g8, g9, g10, hwq, hsq, htq, hs1, hws] <;> exact rfl) (by simp (disch := omega) only [go_sem, w64, wU, List.length_map, lastE_0, hq0, hw1, hsh, hnl, hwl, g1, g2, hql, hwp, g0, g3, g4, hrj, hx, hrq, g8, g9, g10, hwq, hsq, htq, hs1, hws] <;> exact rfl) ?_
                        refine ⟨(q + 1), ?_, ?_, ?_⟩
                        · (try dsimp only); omega
                        · exact ⟨by omega, by omega⟩
                        · refine Wk.sub ?_
                          simp (maxSteps := 1000000) (disch := omega) only [go_sem, w64, wU, List.length_map, lastE_0, hq0, hw1, hsh, hnl, hwl, g1, g2, hql, hwp, g0, g3, g4, hrj, hx, hrq, g8, g9, g10, hwq, hsq, htq, hs1, hws]
                    · try simp only [decide_eq_true_eq, decide_eq_false_iff_not, Bool.or_eq_true, Bool.or_eq_false_iff, Bool.and_eq_true, Bool.and_eq_false_imp, Bool.not_eq_true', Bool.not_eq_false'] at hc7
                      refine AW.exit ?_
                      show AW _ _ _ _ _
                      refine AW.regR1 rfl (by simp (maxSteps := 1000000) only [go_sem, List.length_map, lastE_0, hq0, hw1, hsh, hnl, hwl, g1, g2, hql, hwp, g0, g3, g4, hrj, hx] <;> exact rfl) (by simp (disch := omega) only [go_sem, w64, wU, List.length_map, lastE_0, hq0, hw1, hsh, hnl, hwl, g1, g2, hql, hwp, g0, g3, g4, hrj, hx] <;> exact rfl) ?_
                      refine ⟨(j + 1), ?_, ?_, ?_⟩
                      · (try dsimp only); omega
                      · exact ⟨by omega, by omega⟩
                      · refine Wk.sub ?_
                        simp (maxSteps := 1000000) (disch := omega) only [go_sem, w64, wU, List.length_map, lastE_0, hq0, hw1, hsh, hnl, hwl, g1, g2, hql, hwp, g0, g3, g4, hrj, hx]
            · try simp only [decide_eq_true_eq, decide_eq_false_iff_not, Bool.or_eq_true, Bool.or_eq_false_iff, Bool.and_eq_true, Bool.and_eq_false_imp, Bool.not_eq_true', Bool.not_eq_false'] at hc4
              refine AW.exit ?_
              show AW _ _ _ _ _
              have hs3 : Sm D L := ⟨by rw [h3.len]; omega, by omega⟩
              have hDl : D.length ≤ 20 := by rw [h3.len]; omega
              refine AW.regDS follows (by kernel_rfl) ?_
              refine ARE.run1 (by simp (maxSteps := 1000000) only [go_sem, List.length_map, lastE_0, hq0, hw1, hsh, hnl, hwl, g1, g2, hql, hwp, g0] <;> exact rfl) ?_
              refine ARE.pcall (fun hp => c54 D L E (((2 ^ L.length : Nat) : Int) - 1) (by omega) (by omega)) rfl (by simp (maxSteps := 1000000) only [go_sem, List.length_map, lastE_0, hq0, hw1, hsh, hnl, hwl, g1, g2, hql, hwp, g0] <;> exact rfl) (by simp only [go_sem]) (by simp (maxSteps := 1000000) only [go_sem, List.length_map, lastE_0, hq0, hw1, hsh, hnl, hwl, g1, g2, hql, hwp, g0] <;> exact rfl) ?_
              refine ARE.run1 (by simp (maxSteps := 1000000) only [go_sem, List.length_map, lastE_0, hq0, hw1, hsh, hnl, hwl, g1, g2, hql, hwp, g0] <;> exact rfl) ?_
              refine ARE.pcall (fun hp => c41 D L E hs3) rfl (by simp (maxSteps := 1000000) only [go_sem, List.length_map, lastE_0, hq0, hw1, hsh, hnl, hwl, g1, g2, hql, hwp, g0] <;> exact rfl) (by simp only [go_sem]) (by simp (maxSteps := 1000000) only [go_sem, List.length_map, lastE_0, hq0, hw1, hsh, hnl, hwl, g1, g2, hql, hwp, g0] <;> exact rfl) ?_
              refine ARE.run1 (by simp (maxSteps := 1000000) only [go_sem, List.length_map, lastE_0, hq0, hw1, hsh, hnl, hwl, g1, g2, hql, hwp, g0] <;> exact rfl) ?_
              refine ARE.pcall (fun hp => c47 (imgD D L (((2 ^ L.length : Nat) : Int) - 1)) (putsD D L) false false (by rw [imgD_len]; omega) (by rw [putsD_len]; omega)) rfl (by simp (maxSteps := 1000000) only [go_sem, List.length_map, lastE_0, hq0, hw1, hsh, hnl, hwl, g1, g2, hql, hwp, g0] <;> exact rfl) (by simp only [go_sem]) (by simp (maxSteps := 1000000) only [go_sem, List.length_map, lastE_0, hq0, hw1, hsh, hnl, hwl, g1, g2, hql, hwp, g0] <;> exact rfl) ?_
              refine ARE.run1 (by simp (maxSteps := 1000000) only [go_sem, List.length_map, lastE_0, hq0, hw1, hsh, hnl, hwl, g1, g2, hql, hwp, g0] <;> exact rfl) ?_
              refine ARE.pcall (fun hp => c54 D L E 0 (by omega) (by omega)) rfl (by simp (maxSteps := 1000000) only [go_sem, List.length_map, lastE_0, hq0, hw1, hsh, hnl, hwl, g1, g2, hql, hwp, g0] <;> exact rfl) (by simp only [go_sem]) (by simp (maxSteps := 1000000) only [go_sem, List.length_map, lastE_0, hq0, hw1, hsh, hnl, hwl, g1, g2, hql, hwp, g0] <;> exact rfl) ?_
              refine ARE.run1 (by simp (maxSteps := 1000000) only [go_sem, List.length_map, lastE_0, hq0, hw1, hsh, hnl, hwl, g1, g2, hql, hwp, g0] <;> exact rfl) ?_
              refine ARE.pcall (fun hp => c47 (imgD D L 0) D false false (by rw [imgD_len]; omega) (by omega)) rfl (by simp (maxSteps := 1000000) only [go_sem, List.length_map, lastE_0, hq0, hw1, hsh, hnl, hwl, g1, g2, hql, hwp, g0] <;> exact rfl) (by simp only [go_sem]) (by simp (maxSteps := 1000000) only [go_sem, List.length_map, lastE_0, hq0, hw1, hsh, hnl, hwl, g1, g2, hql, hwp, g0] <;> exact rfl) ?_
              refine ARE.run1 (by simp (maxSteps := 1000000) only [go_sem, List.length_map, lastE_0, hq0, hw1, hsh, hnl, hwl, g1, g2, hql, hwp, g0] <;> exact rfl) ?_
              refine ARE.pcall (fun hp => c48) rfl (by simp (maxSteps := 1000000) only [go_sem, List.length_map, lastE_0, hq0, hw1, hsh, hnl, hwl, g1, g2, hql, hwp, g0] <;> exact rfl) (by simp only [go_sem]) (by simp (maxSteps := 1000000) only [go_sem, List.length_map, lastE_0, hq0, hw1, hsh, hnl, hwl, g1, g2, hql, hwp, g0] <;> exact rfl) ?_
              refine ARE.run1 (by simp (maxSteps := 1000000) only [go_sem, List.length_map, lastE_0, hq0, hw1, hsh, hnl, hwl, g1, g2, hql, hwp, g0] <;> exact rfl) ?_
              refine ARE.fin [0, 0, 0, 4, 12, 30, 62, 127, 0, 511, 1023, 2047, 4095, 8191, 16383, 8191, 40959, 131071, 262143, 524287, 1048575, 2097151, 4194303] _ (by kernel_rfl) (by simp (maxSteps := 1000000) only [go_sem, List.length_map, lastE_0, hq0, hw1, hsh, hnl, hwl, g1, g2, hql, hwp, g0] <;> exact rfl) (by kernel_rfl) (by simp (disch := omega) only [go_sem, w64, wU, List.length_map, lastE_0, hq0, hw1, hsh, hnl, hwl, g1, g2, hql, hwp, g0] <;> exact rfl) ?_
              refine retK.fin rfl (by simp (maxSteps := 1000000) only [go_sem, List.length_map, lastE_0, hq0, hw1, hsh, hnl, hwl, g1, g2, hql, hwp, g0] <;> exact rfl) (by simp (maxSteps := 1000000) only [go_sem, List.length_map, lastE_0, hq0, hw1, hsh, hnl, hwl, g1, g2, hql, hwp, g0] <;> exact rfl) (.of ?_)
              simp only [img_full hf8, img_none]; simp
end Go.Ab.Try
