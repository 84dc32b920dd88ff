/- Where a code may go: the law of blocks. -/
import Derived.Test.YtlgfbiepbneihaaRcK
namespace Go.Ab.Try
open Go.Proofs Go.Ab
set_option linter.unusedVariables false
set_option linter.unusedSimpArgs false
set_option linter.unnecessarySimpa false
set_option maxRecDepth 100000
theorem c5 (code : List Ins) (hc : OkC code) : PC Try.prog 5 [.lst false 5 (code.map inR)] (.bool true) := by
  refine PC.start 110 Try.call5 Try.func5 rfl Try.ntmps5 Try.results5 (by simp only [go_sem]; exact rfl) fun z hz => ?_
  refine AW.regR rfl (by simp (maxSteps := 1000000) only [go_sem] <;> exact rfl) (by first | (simp (disch := omega) only [go_sem, w64, wU] <;> exact rfl) | exact rfl) ?_
  refine AW.seq ?_
  refine AW.regR rfl (by simp (maxSteps := 1000000) only [go_sem] <;> exact rfl) (by first | (simp (disch := omega) only [go_sem, w64, wU] <;> exact rfl) | exact rfl) ?_
  refine AW.cond (by simp (maxSteps := 1000000) only [go_sem] <;> exact rfl) (fun hc1 => ?_) (fun hc1 => ?_)
  · try simp only [decide_eq_true_eq, decide_eq_false_iff_not, Bool.or_eq_true, Bool.or_eq_false_iff, Bool.and_eq_true, Bool.and_eq_false_imp, Bool.not_eq_true', Bool.not_eq_false'] at hc1
    refine AW.regS rfl ?_
    refine ARN.pcall (fun hp => c13) rfl (by simp (maxSteps := 1000000) only [go_sem] <;> exact rfl) (by simp only [go_sem]) (by simp (maxSteps := 1000000) only [go_sem] <;> exact rfl) ?_
    refine ARN.run1 (by simp (maxSteps := 1000000) only [go_sem] <;> exact rfl) ?_
    refine ARN.fin (by first | (simp (disch := omega) only [go_sem, w64, wU] <;> exact rfl) | exact rfl) ?_
    refine retK.fin rfl (by simp (maxSteps := 1000000) only [go_sem] <;> exact rfl) (by simp (maxSteps := 1000000) only [go_sem] <;> exact rfl) (.of ?_)
    rfl
  · try simp only [decide_eq_true_eq, decide_eq_false_iff_not, Bool.or_eq_true, Bool.or_eq_false_iff, Bool.and_eq_true, Bool.and_eq_false_imp, Bool.not_eq_true', Bool.not_eq_false'] at hc1
    refine AW.skip ?_
    show AW _ _ _ _ _
    refine AW.regS rfl ?_
    refine ARN.run1 (by simp (maxSteps := 1000000) only [go_sem] <;> exact rfl) ?_
    refine ARN.pcall (fun hp => c21 code hc (by omega)) rfl (by simp (maxSteps := 1000000) only [go_sem] <;> exact rfl) (by simp only [go_sem]) (by simp (maxSteps := 1000000) only [go_sem] <;> exact rfl) ?_
    refine ARN.run1 (by simp (maxSteps := 1000000) only [go_sem] <;> exact rfl) ?_
    refine ARN.fin (by first | (simp (disch := omega) only [go_sem, w64, wU] <;> exact rfl) | exact rfl) ?_
    have hbl := blk_few code
    refine AW.regR rfl (by simp (maxSteps := 1000000) only [go_sem, hbl] <;> exact rfl) (by first | (simp (disch := omega) only [go_sem, w64, wU, hbl] <;> exact rfl) | exact rfl) ?_
    refine AW.seq ?_
    refine AW.regR rfl (by simp (maxSteps := 1000000) only [go_sem, hbl] <;> exact rfl) (by first | (simp (disch := omega) only [go_sem, w64, wU, hbl] <;> exact rfl) | exact rfl) ?_
    refine AW.block ?_
    refine AW.loopVh (α := (Int) × (Int)) (fun ((i, a) : (Int) × (Int)) => [(5, .pv (.int .i64 i)), (4, .pv (.int .i64 a))]) (fun ((i, a) : (Int) × (Int)) => (0 ≤ i) ∧ (i ≤ ((blkS code).length : Int)) ∧ (a = atB (blkS code) i.toNat)) (fun ((i, a) : (Int) × (Int)) => (((blkS code).length : Int) - i).toNat) (0, 0) ?_ ?_ ?_
    · exact ⟨by omega, by omega, rfl⟩
    · refine Wk.sub ?_
      simp (maxSteps := 1000000) (disch := omega) only [go_sem, w64, wU, hbl]
    · rintro ⟨i, a⟩ hF _ ht
      simp only [updT, go_sem] at ht
      subst ht
      obtain ⟨h1, h2, h3⟩ := hF
      refine AW.seq ?_
      refine AW.regR rfl (by simp (maxSteps := 1000000) only [go_sem, hbl] <;> exact rfl) (by first | (simp (disch := omega) only [go_sem, w64, wU, hbl] <;> exact rfl) | exact rfl) ?_
      refine AW.cond (by simp (maxSteps := 1000000) only [go_sem, hbl] <;> exact rfl) (fun hc2 => ?_) (fun hc2 => ?_)
      · try simp only [decide_eq_true_eq, decide_eq_false_iff_not, Bool.or_eq_true, Bool.or_eq_false_iff, Bool.and_eq_true, Bool.and_eq_false_imp, Bool.not_eq_true', Bool.not_eq_false'] at hc2
        have g1 : 0 ≤ i := h1
        have g2 : i < ((blkS code).length : Int) := hc2
        have hwi : IntKind.i64.wrap (i + 1) = i + 1 := w64 (by omega) (by omega)
        have hrb : ((blkS code).map prR)[i.toNat]? = some [.int .i64 ((blkS code).getD i.toNat (0, 0)).1, .int .i64 ((blkS code).getD i.toNat (0, 0)).2] := pr_at ⟨h1, hc2⟩
        have hba := blk_at h1 hc2
        refine AW.skip ?_
        show AW _ _ _ _ _
        refine AW.seq ?_
        refine AW.block ?_
        refine AW.seq ?_
        refine AW.regS rfl ?_
        refine ARN.run1 (by simp (maxSteps := 1000000) only [go_sem, hbl, g1, g2, hwi, hrb, hba] <;> exact rfl) ?_
        refine ARN.elx rfl (by simp (maxSteps := 1000000) only [go_sem, hbl, g1, g2, hwi, hrb, hba] <;> exact rfl) (by simp (maxSteps := 1000000) only [go_sem, hbl, g1, g2, hwi, hrb, hba] <;> exact rfl) (by simp (maxSteps := 1000000) only [go_sem, hbl, g1, g2, hwi, hrb, hba] <;> exact rfl) (by simp (maxSteps := 1000000) only [go_sem, hbl, g1, g2, hwi, hrb, hba] <;> exact rfl) (by simp (maxSteps := 1000000) only [go_sem, hbl, g1, g2, hwi, hrb, hba] <;> exact rfl) ⟨by decide, by decide⟩ (by decide) (by simp (maxSteps := 1000000) only [go_sem, hbl, g1, g2, hwi, hrb, hba] <;> exact rfl) ?_
        refine ARN.run1 (by simp (maxSteps := 1000000) only [go_sem, hbl, g1, g2, hwi, hrb, hba] <;> exact rfl) ?_
        refine ARN.elx rfl (by simp (maxSteps := 1000000) only [go_sem, hbl, g1, g2, hwi, hrb, hba] <;> exact rfl) (by simp (maxSteps := 1000000) only [go_sem, hbl, g1, g2, hwi, hrb, hba] <;> exact rfl) (by simp (maxSteps := 1000000) only [go_sem, hbl, g1, g2, hwi, hrb, hba] <;> exact rfl) (by simp (maxSteps := 1000000) only [go_sem, hbl, g1, g2, hwi, hrb, hba] <;> exact rfl) (by simp (maxSteps := 1000000) only [go_sem, hbl, g1, g2, hwi, hrb, hba] <;> exact rfl) ⟨by decide, by decide⟩ (by decide) (by simp (maxSteps := 1000000) only [go_sem, hbl, g1, g2, hwi, hrb, hba] <;> exact rfl) ?_
        refine ARN.run1 (by simp (maxSteps := 1000000) only [go_sem, hbl, g1, g2, hwi, hrb, hba] <;> exact rfl) ?_
        refine ARN.elx rfl (by simp (maxSteps := 1000000) only [go_sem, hbl, g1, g2, hwi, hrb, hba] <;> exact rfl) (by simp (maxSteps := 1000000) only [go_sem, hbl, g1, g2, hwi, hrb, hba] <;> exact rfl) (by simp (maxSteps := 1000000) only [go_sem, hbl, g1, g2, hwi, hrb, hba] <;> exact rfl) (by simp (maxSteps := 1000000) only [go_sem, hbl, g1, g2, hwi, hrb, hba] <;> exact rfl) (by simp (maxSteps := 1000000) only [go_sem, hbl, g1, g2, hwi, hrb, hba] <;> exact rfl) ⟨by decide, by decide⟩ (by decide) (by simp (maxSteps := 1000000) only [go_sem, hbl, g1, g2, hwi, hrb, hba] <;> exact rfl) ?_
        refine ARN.run1 (by simp (maxSteps := 1000000) only [go_sem, hbl, g1, g2, hwi, hrb, hba] <;> exact rfl) ?_
        refine ARN.fin (by first | (simp (disch := omega) only [go_sem, w64, wU, hbl, g1, g2, hwi, hrb, hba] <;> exact rfl) | exact rfl) ?_
        refine AW.cond (by simp (maxSteps := 1000000) only [go_sem, hbl, g1, g2, hwi, hrb, hba] <;> exact rfl) (fun hc3 => ?_) (fun hc3 => ?_)
        · try simp only [decide_eq_true_eq, decide_eq_false_iff_not, Bool.or_eq_true, Bool.or_eq_false_iff, Bool.and_eq_true, Bool.and_eq_false_imp, Bool.not_eq_true', Bool.not_eq_false'] at hc3
          exfalso; have h9 := hba.1; omega
        · try simp only [decide_eq_true_eq, decide_eq_false_iff_not, Bool.or_eq_true, Bool.or_eq_false_iff, Bool.and_eq_true, Bool.and_eq_false_imp, Bool.not_eq_true', Bool.not_eq_false'] at hc3
          refine AW.skip ?_
          show AW _ _ _ _ _
          refine AW.reg rfl ?_
          refine ARN.run1 (by simp (maxSteps := 1000000) only [go_sem, hbl, g1, g2, hwi, hrb, hba] <;> exact rfl) ?_
          refine ARN.elx rfl (by simp (maxSteps := 1000000) only [go_sem, hbl, g1, g2, hwi, hrb, hba] <;> exact rfl) (by simp (maxSteps := 1000000) only [go_sem, hbl, g1, g2, hwi, hrb, hba] <;> exact rfl) (by simp (maxSteps := 1000000) only [go_sem, hbl, g1, g2, hwi, hrb, hba] <;> exact rfl) (by simp (maxSteps := 1000000) only [go_sem, hbl, g1, g2, hwi, hrb, hba] <;> exact rfl) (by simp (maxSteps := 1000000) only [go_sem, hbl, g1, g2, hwi, hrb, hba] <;> exact rfl) ⟨by decide, by decide⟩ (by decide) (by simp (maxSteps := 1000000) only [go_sem, hbl, g1, g2, hwi, hrb, hba] <;> exact rfl) ?_
          refine ARN.run1 (by simp (maxSteps := 1000000) only [go_sem, hbl, g1, g2, hwi, hrb, hba] <;> exact rfl) ?_
          refine ARN.fin1 (by first | (simp (disch := omega) only [go_sem, w64, wU, hbl, g1, g2, hwi, hrb, hba] <;> exact rfl) | exact rfl) ?_
          show AW _ _ _ _ _
          refine AW.regR1 rfl (by simp (maxSteps := 1000000) only [go_sem, hbl, g1, g2, hwi, hrb, hba] <;> exact rfl) (by first | (simp (disch := omega) only [go_sem, w64, wU, hbl, g1, g2, hwi, hrb, hba] <;> exact rfl) | exact rfl) ?_
          refine ⟨(i + 1, ((blkS code).getD i.toNat (0, 0)).2), ?_, ?_, ?_⟩
          · (try dsimp only); omega
          · exact ⟨by omega, by omega, (atB_next _ h1).symm⟩
          · refine Wk.sub ?_
            simp (maxSteps := 1000000) (disch := omega) only [go_sem, w64, wU, hbl, g1, g2, hwi, hrb, hba]
      · try simp only [decide_eq_true_eq, decide_eq_false_iff_not, Bool.or_eq_true, Bool.or_eq_false_iff, Bool.and_eq_true, Bool.and_eq_false_imp, Bool.not_eq_true', Bool.not_eq_false'] at hc2
        refine AW.exit ?_
        show AW _ _ _ _ _
        refine AW.seq ?_
        have ha : a = code.length := by (have e : i.toNat = (blkS code).length := by omega); rw [h3, e]; exact atB_end code
        refine AW.regR rfl (by simp (maxSteps := 1000000) only [go_sem, hbl] <;> exact rfl) (by first | (simp (disch := omega) only [go_sem, w64, wU, hbl] <;> exact rfl) | exact rfl) ?_
        refine AW.cond (by simp (maxSteps := 1000000) only [go_sem, hbl] <;> exact rfl) (fun hc4 => ?_) (fun hc4 => ?_)
        · try simp only [decide_eq_true_eq, decide_eq_false_iff_not, Bool.or_eq_true, Bool.or_eq_false_iff, Bool.and_eq_true, Bool.and_eq_false_imp, Bool.not_eq_true', Bool.not_eq_false'] at hc4
          exfalso; omega
        · try simp only [decide_eq_true_eq, decide_eq_false_iff_not, Bool.or_eq_true, Bool.or_eq_false_iff, Bool.and_eq_true, Bool.and_eq_false_imp, Bool.not_eq_true', Bool.not_eq_false'] at hc4
          refine AW.skip ?_
          show AW _ _ _ _ _
          refine AW.seq ?_
          refine AW.regR rfl (by simp (maxSteps := 1000000) only [go_sem, hbl] <;> exact rfl) (by first | (simp (disch := omega) only [go_sem, w64, wU, hbl] <;> exact rfl) | exact rfl) ?_
          refine AW.block ?_
          refine AW.loopVh (α := (Int)) (fun (pc : (Int)) => [(6, .pv (.int .i64 pc))]) (fun (pc : (Int)) => (0 ≤ pc) ∧ (pc ≤ (code.length : Int))) (fun (pc : (Int)) => ((code.length : Int) - pc).toNat) 0 ?_ ?_ ?_
          · exact ⟨by omega, by omega⟩
          · refine Wk.sub ?_
            simp (maxSteps := 1000000) (disch := omega) only [go_sem, w64, wU, hbl]
          · rintro pc hF _ ht
            simp only [updT, go_sem] at ht
            subst ht
            obtain ⟨k1, k2⟩ := hF
            refine AW.seq ?_
            refine AW.regR rfl (by simp (maxSteps := 1000000) only [go_sem, hbl] <;> exact rfl) (by first | (simp (disch := omega) only [go_sem, w64, wU, hbl] <;> exact rfl) | exact rfl) ?_
            refine AW.cond (by simp (maxSteps := 1000000) only [go_sem, hbl] <;> exact rfl) (fun hc5 => ?_) (fun hc5 => ?_)
            · try simp only [decide_eq_true_eq, decide_eq_false_iff_not, Bool.or_eq_true, Bool.or_eq_false_iff, Bool.and_eq_true, Bool.and_eq_false_imp, Bool.not_eq_true', Bool.not_eq_false'] at hc5
              have hwp : IntKind.i64.wrap (pc + 1) = pc + 1 := w64 (by omega) (by omega)
              have hnl := next_len code pc
              refine AW.skip ?_
              show AW _ _ _ _ _
              refine AW.seq ?_
              refine AW.block ?_
              refine AW.regS rfl ?_
              refine ARN.run1 (by simp (maxSteps := 1000000) only [go_sem, hbl, hwp, hnl] <;> exact rfl) ?_
              refine ARN.pcall (fun hp => c15 code pc hc (by omega)) rfl (by simp (maxSteps := 1000000) only [go_sem, hbl, hwp, hnl] <;> exact rfl) (by simp only [go_sem]) (by simp (maxSteps := 1000000) only [go_sem, hbl, hwp, hnl] <;> exact rfl) ?_
              refine ARN.run1 (by simp (maxSteps := 1000000) only [go_sem, hbl, hwp, hnl] <;> exact rfl) ?_
              refine ARN.fin (by first | (simp (disch := omega) only [go_sem, w64, wU, hbl, hwp, hnl] <;> exact rfl) | exact rfl) ?_
              refine AW.regR rfl (by simp (maxSteps := 1000000) only [go_sem, hbl, hwp, hnl] <;> exact rfl) (by first | (simp (disch := omega) only [go_sem, w64, wU, hbl, hwp, hnl] <;> exact rfl) | exact rfl) ?_
              refine AW.block ?_
              refine AW.loopVh (α := (Int)) (fun (j : (Int)) => [(8, .pv (.int .i64 j))]) (fun (j : (Int)) => (0 ≤ j) ∧ (j ≤ ((blkS code).length : Int))) (fun (j : (Int)) => (((blkS code).length : Int) - j).toNat) 0 ?_ ?_ ?_
              · exact ⟨by omega, by omega⟩
              · refine Wk.sub ?_
                simp (maxSteps := 1000000) (disch := omega) only [go_sem, w64, wU, hbl, hwp, hnl]
              · rintro j hF _ ht
                simp only [updT, go_sem] at ht
                subst ht
                obtain ⟨m1, m2⟩ := hF
                refine AW.seq ?_
                refine AW.regR rfl (by simp (maxSteps := 1000000) only [go_sem, hbl, hwp, hnl] <;> exact rfl) (by first | (simp (disch := omega) only [go_sem, w64, wU, hbl, hwp, hnl] <;> exact rfl) | exact rfl) ?_
                refine AW.cond (by simp (maxSteps := 1000000) only [go_sem, hbl, hwp, hnl] <;> exact rfl) (fun hc6 => ?_) (fun hc6 => ?_)
                · try simp only [decide_eq_true_eq, decide_eq_false_iff_not, Bool.or_eq_true, Bool.or_eq_false_iff, Bool.and_eq_true, Bool.and_eq_false_imp, Bool.not_eq_true', Bool.not_eq_false'] at hc6
                  have g3 : 0 ≤ j := m1
                  have g4 : j < ((blkS code).length : Int) := hc6
                  have hwj : IntKind.i64.wrap (j + 1) = j + 1 := w64 (by omega) (by omega)
                  have hrj : ((blkS code).map prR)[j.toNat]? = some [.int .i64 ((blkS code).getD j.toNat (0, 0)).1, .int .i64 ((blkS code).getD j.toNat (0, 0)).2] := pr_at ⟨m1, hc6⟩
                  refine AW.skip ?_
                  show AW _ _ _ _ _
                  refine AW.seq ?_
                  refine AW.block ?_
                  refine AW.regR rfl (by simp (maxSteps := 1000000) only [go_sem, hbl, hwp, hnl, g3, g4, hwj, hrj] <;> exact rfl) (by first | (simp (disch := omega) only [go_sem, w64, wU, hbl, hwp, hnl, g3, g4, hwj, hrj] <;> exact rfl) | exact rfl) ?_
                  refine AW.block ?_
                  refine AW.loopVh (α := (Int)) (fun (k : (Int)) => [(9, .pv (.int .i64 k))]) (fun (k : (Int)) => (0 ≤ k) ∧ (k ≤ ((nextS code pc).length : Int))) (fun (k : (Int)) => (((nextS code pc).length : Int) - k).toNat) 0 ?_ ?_ ?_
                  · exact ⟨by omega, by omega⟩
                  · refine Wk.sub ?_
                    simp (maxSteps := 1000000) (disch := omega) only [go_sem, w64, wU, hbl, hwp, hnl, g3, g4, hwj, hrj]
                  · rintro k hF _ ht
                    simp only [updT, go_sem] at ht
                    subst ht
                    obtain ⟨n1, n2⟩ := hF
                    refine AW.seq ?_
                    refine AW.regR rfl (by simp (maxSteps := 1000000) only [go_sem, hbl, hwp, hnl, g3, g4, hwj, hrj] <;> exact rfl) (by first | (simp (disch := omega) only [go_sem, w64, wU, hbl, hwp, hnl, g3, g4, hwj, hrj] <;> exact rfl) | exact rfl) ?_
                    refine AW.cond (by simp (maxSteps := 1000000) only [go_sem, hbl, hwp, hnl, g3, g4, hwj, hrj] <;> exact rfl) (fun hc7 => ?_) (fun hc7 => ?_)
                    · try simp only [decide_eq_true_eq, decide_eq_false_iff_not, Bool.or_eq_true, Bool.or_eq_false_iff, Bool.and_eq_true, Bool.and_eq_false_imp, Bool.not_eq_true', Bool.not_eq_false'] at hc7
                      have g5 : 0 ≤ k := n1
                      have g6 : k < ((nextS code pc).length : Int) := hc7
                      have hwk : IntKind.i64.wrap (k + 1) = k + 1 := w64 (by omega) (by omega)
                      have hrk : ((nextS code pc).map nR)[k.toNat]? = some [.int .i64 ((nextS code pc).getD k.toNat 0)] := n_at ⟨n1, hc7⟩
                      refine AW.skip ?_
                      show AW _ _ _ _ _
                      refine AW.seq ?_
                      refine AW.block ?_
                      refine AW.regDS follows (by kernel_rfl) ?_
                      refine ARE.runK 7 (by simp (maxSteps := 1000000) only [go_sem, hbl, hwp, hnl, g3, g4, hwj, hrj, g5, g6, hwk, hrk] <;> exact rfl) ?_
                      refine ARE.elx rfl (by simp (maxSteps := 1000000) only [go_sem, hbl, hwp, hnl, g3, g4, hwj, hrj, g5, g6, hwk, hrk] <;> exact rfl) (by simp (maxSteps := 1000000) only [go_sem, hbl, hwp, hnl, g3, g4, hwj, hrj, g5, g6, hwk, hrk] <;> exact rfl) (by simp (maxSteps := 1000000) only [go_sem, hbl, hwp, hnl, g3, g4, hwj, hrj, g5, g6, hwk, hrk] <;> exact rfl) (by simp (maxSteps := 1000000) only [go_sem, hbl, hwp, hnl, g3, g4, hwj, hrj, g5, g6, hwk, hrk] <;> exact rfl) (by simp (maxSteps := 1000000) only [go_sem, hbl, hwp, hnl, g3, g4, hwj, hrj, g5, g6, hwk, hrk] <;> exact rfl) ⟨by decide, by decide⟩ (by decide) (by simp (maxSteps := 1000000) only [go_sem, hbl, hwp, hnl, g3, g4, hwj, hrj, g5, g6, hwk, hrk] <;> exact rfl) ?_
                      refine ARE.runK 10 (by simp (maxSteps := 1000000) only [go_sem, hbl, hwp, hnl, g3, g4, hwj, hrj, g5, g6, hwk, hrk] <;> exact rfl) ?_
                      refine ARE.elx rfl (by simp (maxSteps := 1000000) only [go_sem, hbl, hwp, hnl, g3, g4, hwj, hrj, g5, g6, hwk, hrk] <;> exact rfl) (by simp (maxSteps := 1000000) only [go_sem, hbl, hwp, hnl, g3, g4, hwj, hrj, g5, g6, hwk, hrk] <;> exact rfl) (by simp (maxSteps := 1000000) only [go_sem, hbl, hwp, hnl, g3, g4, hwj, hrj, g5, g6, hwk, hrk] <;> exact rfl) (by simp (maxSteps := 1000000) only [go_sem, hbl, hwp, hnl, g3, g4, hwj, hrj, g5, g6, hwk, hrk] <;> exact rfl) (by simp (maxSteps := 1000000) only [go_sem, hbl, hwp, hnl, g3, g4, hwj, hrj, g5, g6, hwk, hrk] <;> exact rfl) ⟨by decide, by decide⟩ (by decide) (by simp (maxSteps := 1000000) only [go_sem, hbl, hwp, hnl, g3, g4, hwj, hrj, g5, g6, hwk, hrk] <;> exact rfl) ?_
                      refine ARE.run1 (by simp (maxSteps := 1000000) only [go_sem, hbl, hwp, hnl, g3, g4, hwj, hrj, g5, g6, hwk, hrk] <;> exact rfl) ?_
                      refine ARE.fin [0, 0, 3, 7, 0, 0, 48, 112, 240, 511, 1023, 2047, 2047, 8191, 16383, 2047, 2047, 100351, 231423, 493567, 1048575, 2097151, 4194303, 8388607, 8388607, 33554431, 67108863, 8388607, 142606335, 536870911, 1073741823] _ (by kernel_rfl) (by simp (maxSteps := 1000000) only [go_sem, hbl, hwp, hnl, g3, g4, hwj, hrj, g5, g6, hwk, hrk] <;> exact rfl) (by kernel_rfl) (by first | (simp (disch := omega) only [go_sem, w64, wU, hbl, hwp, hnl, g3, g4, hwj, hrj, g5, g6, hwk, hrk] <;> exact rfl) | exact rfl) ?_
                      refine AW.cond (by simp (maxSteps := 1000000) only [go_sem, hbl, hwp, hnl, g3, g4, hwj, hrj, g5, g6, hwk, hrk] <;> exact rfl) (fun hc8 => ?_) (fun hc8 => ?_)
                      · try simp only [decide_eq_true_eq, decide_eq_false_iff_not, Bool.or_eq_true, Bool.or_eq_false_iff, Bool.and_eq_true, Bool.and_eq_false_imp, Bool.not_eq_true', Bool.not_eq_false'] at hc8
                        exact absurd (into' hc (by omega) (getD_mem (by omega)) m1 hc6 hc8.1.1 hc8.1.2) hc8.2
                      · try simp only [decide_eq_true_eq, decide_eq_false_iff_not, Bool.or_eq_true, Bool.or_eq_false_iff, Bool.and_eq_true, Bool.and_eq_false_imp, Bool.not_eq_true', Bool.not_eq_false'] at hc8
                        refine AW.skip ?_
                        show AW _ _ _ _ _
                        refine AW.regR1 rfl (by simp (maxSteps := 1000000) only [go_sem, hbl, hwp, hnl, g3, g4, hwj, hrj, g5, g6, hwk, hrk] <;> exact rfl) (by first | (simp (disch := omega) only [go_sem, w64, wU, hbl, hwp, hnl, g3, g4, hwj, hrj, g5, g6, hwk, hrk] <;> exact rfl) | exact rfl) ?_
                        refine ⟨(k + 1), ?_, ?_, ?_⟩
                        · (try dsimp only); omega
                        · exact ⟨by omega, by omega⟩
                        · refine Wk.sub ?_
                          simp (maxSteps := 1000000) (disch := omega) only [go_sem, w64, wU, hbl, hwp, hnl, g3, g4, hwj, hrj, g5, g6, hwk, hrk]
                    · try simp only [decide_eq_true_eq, decide_eq_false_iff_not, Bool.or_eq_true, Bool.or_eq_false_iff, Bool.and_eq_true, Bool.and_eq_false_imp, Bool.not_eq_true', Bool.not_eq_false'] at hc7
                      refine AW.exit ?_
                      show AW _ _ _ _ _
                      refine AW.regR1 rfl (by simp (maxSteps := 1000000) only [go_sem, hbl, hwp, hnl, g3, g4, hwj, hrj] <;> exact rfl) (by first | (simp (disch := omega) only [go_sem, w64, wU, hbl, hwp, hnl, g3, g4, hwj, hrj] <;> exact rfl) | exact rfl) ?_
                      refine ⟨(j + 1), ?_, ?_, ?_⟩
                      · (try dsimp only); omega
                      · exact ⟨by omega, by omega⟩
                      · refine Wk.sub ?_
                        simp (maxSteps := 1000000) (disch := omega) only [go_sem, w64, wU, hbl, hwp, hnl, g3, g4, hwj, hrj]
                · try simp only [decide_eq_true_eq, decide_eq_false_iff_not, Bool.or_eq_true, Bool.or_eq_false_iff, Bool.and_eq_true, Bool.and_eq_false_imp, Bool.not_eq_true', Bool.not_eq_false'] at hc6
                  refine AW.exit ?_
                  show AW _ _ _ _ _
                  refine AW.regR1 rfl (by simp (maxSteps := 1000000) only [go_sem, hbl, hwp, hnl] <;> exact rfl) (by first | (simp (disch := omega) only [go_sem, w64, wU, hbl, hwp, hnl] <;> exact rfl) | exact rfl) ?_
                  refine ⟨(pc + 1), ?_, ?_, ?_⟩
                  · (try dsimp only); omega
                  · exact ⟨by omega, by omega⟩
                  · refine Wk.sub ?_
                    simp (maxSteps := 1000000) (disch := omega) only [go_sem, w64, wU, hbl, hwp, hnl]
            · try simp only [decide_eq_true_eq, decide_eq_false_iff_not, Bool.or_eq_true, Bool.or_eq_false_iff, Bool.and_eq_true, Bool.and_eq_false_imp, Bool.not_eq_true', Bool.not_eq_false'] at hc5
              refine AW.exit ?_
              show AW _ _ _ _ _
              refine AW.regS rfl ?_
              refine ARN.pcall (fun hp => c13) rfl (by simp (maxSteps := 1000000) only [go_sem, hbl] <;> exact rfl) (by simp only [go_sem]) (by simp (maxSteps := 1000000) only [go_sem, hbl] <;> exact rfl) ?_
              refine ARN.run1 (by simp (maxSteps := 1000000) only [go_sem, hbl] <;> exact rfl) ?_
              refine ARN.fin (by first | (simp (disch := omega) only [go_sem, w64, wU, hbl] <;> exact rfl) | exact rfl) ?_
              refine retK.fin rfl (by simp (maxSteps := 1000000) only [go_sem, hbl] <;> exact rfl) (by simp (maxSteps := 1000000) only [go_sem, hbl] <;> exact rfl) (.of ?_)
              rfl
end Go.Ab.Try
