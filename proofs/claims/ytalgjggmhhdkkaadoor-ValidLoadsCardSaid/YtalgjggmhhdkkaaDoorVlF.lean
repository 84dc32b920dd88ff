/- Whether a program may be; loading. -/
import Derived.Test.YtalgjggmhhdkkaaDoorNC
import Derived.Test.YtalgjggmhhdkkaaDoorCM
import Derived.Test.YtalgjggmhhdkkaaDoorImJ
import Derived.Test.YtalgjggmhhdkkaaDoorImK
import Derived.Test.YtalgjggmhhdkkaaDoorIsG
namespace Go.Ab.Tryd
open Go.Proofs Go.Ab
set_option linter.unusedVariables false
set_option linter.unusedSimpArgs false
set_option linter.unnecessarySimpa false
set_option maxRecDepth 100000
theorem c27 (r : Int) (l : List Ins) (p : Bool) (hl : (l.length : Int) ≤ 9223372036854775807) (ok : OkC l) : PC Tryd.prog 27 [.int .i64 r, .lst p 5 (l.map inR)] (errV (r, codeE l r)) := by
  refine PC.start 39 Tryd.call27 Tryd.func27 rfl Tryd.ntmps27 Tryd.results27 (by simp only [go_sem]; exact rfl) fun z hz => ?_
  refine AW.regR rfl (by simp (maxSteps := 1000000) only [go_sem] <;> exact rfl) (by first | (simp (disch := omega) only [go_sem, w64, wU] <;> exact rfl) | exact rfl) ?_
  refine AW.seq ?_
  refine AW.regR rfl (by simp (maxSteps := 1000000) only [go_sem] <;> exact rfl) (by first | (simp (disch := omega) only [go_sem, w64, wU] <;> exact rfl) | exact rfl) ?_
  refine AW.cond (by simp (maxSteps := 1000000) only [go_sem] <;> exact rfl) (fun hc1 => ?_) (fun hc1 => ?_)
  · try simp only [decide_eq_true_eq, decide_eq_false_iff_not, Bool.or_eq_true, Bool.or_eq_false_iff, Bool.and_eq_true, Bool.and_eq_false_imp, Bool.not_eq_true', Bool.not_eq_false'] at hc1
    refine AW.regL ?_
    refine AWL.runG (by simp (maxSteps := 1000000) only [go_sem] <;> exact rfl) ?_
    refine AWL.mkifcA (by simp (maxSteps := 1000000) only [go_sem] <;> exact rfl) rfl Tryd.underlying48 (fun _ h => by cases h) (by simp (maxSteps := 1000000) only [go_sem] <;> exact rfl) (by simp (maxSteps := 1000000) only [go_sem] <;> exact rfl) (by simp (maxSteps := 1000000) only [go_sem] <;> exact rfl) ?_
    refine AWL.runG (by simp (maxSteps := 1000000) only [go_sem] <;> exact rfl) ?_
    refine AWL.fin (by first | (simp (disch := omega) only [go_sem, w64, wU] <;> exact rfl) | exact rfl) ?_
    refine retK.fin rfl (by simp (maxSteps := 1000000) only [go_sem] <;> exact rfl) (by simp (maxSteps := 1000000) only [go_sem] <;> exact rfl) (.of ?_)
    rw [codeE_out (by omega)]
    exact (err_some (x := (r, 0, 13)) (show ¬ ((13 : Int) = 0) by decide)).symm
  · try simp only [decide_eq_true_eq, decide_eq_false_iff_not, Bool.or_eq_true, Bool.or_eq_false_iff, Bool.and_eq_true, Bool.and_eq_false_imp, Bool.not_eq_true', Bool.not_eq_false'] at hc1
    refine AW.skip ?_
    show AW _ _ _ _ _
    refine AW.seq ?_
    refine AW.regR rfl (by simp (maxSteps := 1000000) only [go_sem] <;> exact rfl) (by first | (simp (disch := omega) only [go_sem, w64, wU] <;> exact rfl) | exact rfl) ?_
    refine AW.block ?_
    refine AW.loopV (α := (Int)) (fun (i : (Int)) => [(21, .pv (.int .i64 i))]) (fun (i : (Int)) => []) (fun (i : (Int)) => (0 ≤ i) ∧ (i ≤ (l.length : Int)) ∧ (codeE l r = badF l r (l.length - i.toNat) i.toNat)) (fun (i : (Int)) => ((l.length : Int) - i).toNat) 0 ?_ ?_ ?_
    · exact ⟨by omega, by omega, codeE_in (by omega)⟩
    · refine Wk.to [] [] hz (by decide) ?_ ?_
      · simp (maxSteps := 1000000) (disch := omega) only [go_sem, w64, wU]
      · simp (maxSteps := 1000000) (disch := omega) only [go_sem, w64, wU]
    · rintro i hF _ ht _ hh
      simp only [updT, go_sem] at ht hh
      subst ht; subst hh
      obtain ⟨h1, h2, h3⟩ := hF
      refine AW.regR rfl (by simp (maxSteps := 1000000) only [go_sem] <;> exact rfl) (by first | (simp (disch := omega) only [go_sem, w64, wU] <;> exact rfl) | exact rfl) ?_
      refine AW.seq ?_
      refine AW.cond (by simp (maxSteps := 1000000) only [go_sem] <;> exact rfl) (fun hc2 => ?_) (fun hc2 => ?_)
      · try simp only [decide_eq_true_eq, decide_eq_false_iff_not, Bool.or_eq_true, Bool.or_eq_false_iff, Bool.and_eq_true, Bool.and_eq_false_imp, Bool.not_eq_true', Bool.not_eq_false'] at hc2
        have hri : (l.map inR)[i.toNat]? = some (inR (l.getD i.toNat i0)) := inx_at ⟨h1, hc2⟩
        have g1 : 0 ≤ i := h1
        have g2 : i < (l.length : Int) := hc2
        have hwi : IntKind.i64.wrap (i + 1) = i + 1 := w64 (by omega) (by omega)
        refine AW.skip ?_
        show AW _ _ _ _ _
        refine AW.seq ?_
        refine AW.block ?_
        refine AW.regR rfl (by simp (maxSteps := 1000000) only [go_sem, hri, g1, g2, hwi] <;> exact rfl) (by first | (simp (disch := omega) only [go_sem, w64, wU, hri, g1, g2, hwi] <;> exact rfl) | exact rfl) ?_
        have hcl : PC Tryd.prog 35 [.agg [.int .i64 (l.getD i.toNat i0).1, .int .i64 (l.getD i.toNat i0).2.1, .int .i64 (l.getD i.toNat i0).2.2.1, .int .i64 (l.getD i.toNat i0).2.2.2.1, .int .u64 (l.getD i.toNat i0).2.2.2.2], .int .i64 r, .int .i64 (l.length : Int)] (.int .i64 (badI l r i.toNat)) := c35 _ _ _ _ _ r _ (ok _ (getD_mem (by omega)))
        refine AW.regS rfl ?_
        refine ARN.run1 (by simp (maxSteps := 1000000) only [go_sem, hri, g1, g2, hwi] <;> exact rfl) ?_
        refine ARN.pcall (fun hp => hcl) rfl (by simp (maxSteps := 1000000) only [go_sem, hri, g1, g2, hwi] <;> exact rfl) (by simp only [go_sem]) (by simp (maxSteps := 1000000) only [go_sem, hri, g1, g2, hwi] <;> exact rfl) ?_
        refine ARN.run1 (by simp (maxSteps := 1000000) only [go_sem, hri, g1, g2, hwi] <;> exact rfl) ?_
        refine ARN.fin (by first | (simp (disch := omega) only [go_sem, w64, wU, hri, g1, g2, hwi] <;> exact rfl) | exact rfl) ?_
        refine AW.regR rfl (by simp (maxSteps := 1000000) only [go_sem, hri, g1, g2, hwi] <;> exact rfl) (by first | (simp (disch := omega) only [go_sem, w64, wU, hri, g1, g2, hwi] <;> exact rfl) | exact rfl) ?_
        refine AW.cond (by simp (maxSteps := 1000000) only [go_sem, hri, g1, g2, hwi] <;> exact rfl) (fun hc3 => ?_) (fun hc3 => ?_)
        · try simp only [decide_eq_true_eq, decide_eq_false_iff_not, Bool.or_eq_true, Bool.or_eq_false_iff, Bool.and_eq_true, Bool.and_eq_false_imp, Bool.not_eq_true', Bool.not_eq_false'] at hc3
          refine AW.regL ?_
          refine AWL.runG (by simp (maxSteps := 1000000) only [go_sem, hri, g1, g2, hwi] <;> exact rfl) ?_
          refine AWL.mkifcA (by simp (maxSteps := 1000000) only [go_sem, hri, g1, g2, hwi] <;> exact rfl) rfl Tryd.underlying48 (fun _ h => by cases h) (by simp (maxSteps := 1000000) only [go_sem, hri, g1, g2, hwi] <;> exact rfl) (by simp (maxSteps := 1000000) only [go_sem, hri, g1, g2, hwi] <;> exact rfl) (by simp (maxSteps := 1000000) only [go_sem, hri, g1, g2, hwi] <;> exact rfl) ?_
          refine AWL.runG (by simp (maxSteps := 1000000) only [go_sem, hri, g1, g2, hwi] <;> exact rfl) ?_
          refine AWL.fin (by first | (simp (disch := omega) only [go_sem, w64, wU, hri, g1, g2, hwi] <;> exact rfl) | exact rfl) ?_
          refine retK.fin rfl (by simp (maxSteps := 1000000) only [go_sem, hri, g1, g2, hwi] <;> exact rfl) (by simp (maxSteps := 1000000) only [go_sem, hri, g1, g2, hwi] <;> exact rfl) (.of ?_)
          rw [badF_at h3 h1 g2 hc3]
          exact (err_some (x := (r, i, badI l r i.toNat)) hc3).symm
        · try simp only [decide_eq_true_eq, decide_eq_false_iff_not, Bool.or_eq_true, Bool.or_eq_false_iff, Bool.and_eq_true, Bool.and_eq_false_imp, Bool.not_eq_true', Bool.not_eq_false'] at hc3
          refine AW.skip ?_
          show AW _ _ _ _ _
          refine AW.regR1 rfl (by simp (maxSteps := 1000000) only [go_sem, hri, g1, g2, hwi] <;> exact rfl) (by first | (simp (disch := omega) only [go_sem, w64, wU, hri, g1, g2, hwi] <;> exact rfl) | exact rfl) ?_
          refine ⟨(i + 1), ?_, ?_, ?_⟩
          · (try dsimp only); omega
          · exact ⟨by omega, by omega, badF_go h3 h1 g2 hc3⟩
          · refine Wk.to [] [] hz (by decide) ?_ ?_
            · simp (maxSteps := 1000000) (disch := omega) only [go_sem, w64, wU, hri, g1, g2, hwi]
            · simp (maxSteps := 1000000) (disch := omega) only [go_sem, w64, wU, hri, g1, g2, hwi]
      · try simp only [decide_eq_true_eq, decide_eq_false_iff_not, Bool.or_eq_true, Bool.or_eq_false_iff, Bool.and_eq_true, Bool.and_eq_false_imp, Bool.not_eq_true', Bool.not_eq_false'] at hc2
        refine AW.exit ?_
        show AW _ _ _ _ _
        refine AW.regR rfl (by simp (maxSteps := 1000000) only [go_sem] <;> exact rfl) (by first | (simp (disch := omega) only [go_sem, w64, wU] <;> exact rfl) | exact rfl) ?_
        refine retK.fin rfl (by simp (maxSteps := 1000000) only [go_sem] <;> exact rfl) (by simp (maxSteps := 1000000) only [go_sem] <;> exact rfl) (.of ?_)
        rw [badF_fin h3 hc2]
        exact (err_nil rfl).symm
theorem c8 (p : Pg) (wp : OkPg p) (sp : smP p) : PC Tryd.prog 8 [pgV p] (.tup [.int .i64 (checkP p).1, .int .i64 (checkP p).2.1, .int .i64 (checkP p).2.2]) := by
  refine PC.start 71 Tryd.call8 Tryd.func8 rfl Tryd.ntmps8 Tryd.results8 (by simp only [go_sem]; exact rfl) fun z hz => ?_
  refine AW.regR rfl (by simp (maxSteps := 1000000) only [go_sem] <;> exact rfl) (by first | (simp (disch := omega) only [go_sem, w64, wU] <;> exact rfl) | exact rfl) ?_
  refine AW.seq ?_
  refine AW.regR rfl (by simp (maxSteps := 1000000) only [go_sem] <;> exact rfl) (by first | (simp (disch := omega) only [go_sem, w64, wU] <;> exact rfl) | exact rfl) ?_
  refine AW.cond (by simp (maxSteps := 1000000) only [go_sem] <;> exact rfl) (fun hc1 => ?_) (fun hc1 => ?_)
  · try simp only [decide_eq_true_eq, decide_eq_false_iff_not, Bool.or_eq_true, Bool.or_eq_false_iff, Bool.and_eq_true, Bool.and_eq_false_imp, Bool.not_eq_true', Bool.not_eq_false'] at hc1
    refine AW.regR rfl (by simp (maxSteps := 1000000) only [go_sem] <;> exact rfl) (by first | (simp (disch := omega) only [go_sem, w64, wU] <;> exact rfl) | exact rfl) ?_
    refine retK.fin rfl (by simp (maxSteps := 1000000) only [go_sem] <;> exact rfl) (by simp (maxSteps := 1000000) only [go_sem] <;> exact rfl) (.of ?_)
    rw [check_geo (by unfold geoB; omega)]
  · try simp only [decide_eq_true_eq, decide_eq_false_iff_not, Bool.or_eq_true, Bool.or_eq_false_iff, Bool.and_eq_true, Bool.and_eq_false_imp, Bool.not_eq_true', Bool.not_eq_false'] at hc1
    refine AW.skip ?_
    show AW _ _ _ _ _
    refine AW.seq ?_
    have hg : ¬ geoB p := by unfold geoB; omega
    refine AW.regR rfl (by simp (maxSteps := 1000000) only [go_sem] <;> exact rfl) (by first | (simp (disch := omega) only [go_sem, w64, wU] <;> exact rfl) | exact rfl) ?_
    refine AW.block ?_
    refine AW.rounds 4 ?_
    refine ARounds.mk ?_
    refine AW.seq ?_
    refine AW.regR rfl (by simp (maxSteps := 1000000) only [go_sem] <;> exact rfl) (by first | (simp (disch := omega) only [go_sem, w64, wU] <;> exact rfl) | exact rfl) ?_
    refine AW.condT (by simp (maxSteps := 1000000) only [go_sem] <;> exact rfl) ?_
    refine AW.skip ?_
    show AW _ _ _ _ _
    refine AW.seq ?_
    refine AW.block ?_
    refine AW.regR rfl (by simp (maxSteps := 1000000) only [go_sem] <;> exact rfl) (by first | (simp (disch := omega) only [go_sem, w64, wU] <;> exact rfl) | exact rfl) ?_
    refine AW.seq ?_
    refine AW.regR rfl (by simp (maxSteps := 1000000) only [go_sem] <;> exact rfl) (by first | (simp (disch := omega) only [go_sem, w64, wU] <;> exact rfl) | exact rfl) ?_
    refine AW.cond (by simp (maxSteps := 1000000) only [go_sem] <;> exact rfl) (fun hc2 => ?_) (fun hc2 => ?_)
    · try simp only [decide_eq_true_eq, decide_eq_false_iff_not, Bool.or_eq_true, Bool.or_eq_false_iff, Bool.and_eq_true, Bool.and_eq_false_imp, Bool.not_eq_true', Bool.not_eq_false'] at hc2
      refine AW.regR rfl (by simp (maxSteps := 1000000) only [go_sem] <;> exact rfl) (by first | (simp (disch := omega) only [go_sem, w64, wU] <;> exact rfl) | exact rfl) ?_
      refine retK.fin rfl (by simp (maxSteps := 1000000) only [go_sem] <;> exact rfl) (by simp (maxSteps := 1000000) only [go_sem] <;> exact rfl) (.of ?_)
      rw [check_0 hg (by rw [codeE_out (by omega)]; decide), codeE_out (by omega)]
    · try simp only [decide_eq_true_eq, decide_eq_false_iff_not, Bool.or_eq_true, Bool.or_eq_false_iff, Bool.and_eq_true, Bool.and_eq_false_imp, Bool.not_eq_true', Bool.not_eq_false'] at hc2
      refine AW.skip ?_
      show AW _ _ _ _ _
      refine AW.regR rfl (by simp (maxSteps := 1000000) only [go_sem] <;> exact rfl) (by first | (simp (disch := omega) only [go_sem, w64, wU] <;> exact rfl) | exact rfl) ?_
      refine AW.block ?_
      refine AW.loopVh (α := (Int)) (fun (i : (Int)) => [(7, .pv (.int .i64 i))]) (fun (i : (Int)) => (0 ≤ i) ∧ (i ≤ (p.c0.length : Int)) ∧ (codeE p.c0 0 = badF p.c0 0 (p.c0.length - i.toNat) i.toNat)) (fun (i : (Int)) => ((p.c0.length : Int) - i).toNat) 0 ?_ ?_ ?_
      · exact ⟨by omega, by omega, codeE_in (by omega)⟩
      · refine Wk.sub ?_
        simp (maxSteps := 1000000) (disch := omega) only [go_sem, w64, wU]
      · rintro i hF _ ht
        simp only [updT, go_sem] at ht
        subst ht
        obtain ⟨hi1, hi2, hi3⟩ := hF
        refine AW.seq ?_
        refine AW.regR rfl (by simp (maxSteps := 1000000) only [go_sem] <;> exact rfl) (by first | (simp (disch := omega) only [go_sem, w64, wU] <;> exact rfl) | exact rfl) ?_
        refine AW.cond (by simp (maxSteps := 1000000) only [go_sem] <;> exact rfl) (fun hc3 => ?_) (fun hc3 => ?_)
        · try simp only [decide_eq_true_eq, decide_eq_false_iff_not, Bool.or_eq_true, Bool.or_eq_false_iff, Bool.and_eq_true, Bool.and_eq_false_imp, Bool.not_eq_true', Bool.not_eq_false'] at hc3
          have hri : (p.c0.map inR)[i.toNat]? = some (inR (p.c0.getD i.toNat i0)) := inx_at ⟨hi1, hc3⟩
          have g1 : 0 ≤ i := hi1
          have g2 : i < (p.c0.length : Int) := hc3
          have hwi : IntKind.i64.wrap (i + 1) = i + 1 := w64 (by omega) (by omega)
          have hcl : PC Tryd.prog 16 [.agg [.int .i64 (p.c0.getD i.toNat i0).1, .int .i64 (p.c0.getD i.toNat i0).2.1, .int .i64 (p.c0.getD i.toNat i0).2.2.1, .int .i64 (p.c0.getD i.toNat i0).2.2.2.1, .int .u64 (p.c0.getD i.toNat i0).2.2.2.2], .int .i64 0, .int .i64 (p.c0.length : Int)] (.int .i64 (badI p.c0 0 i.toNat)) := c16 _ _ _ _ _ 0 _ (wp.c0 _ (getD_mem (by omega)))
          refine AW.skip ?_
          show AW _ _ _ _ _
          refine AW.seq ?_
          refine AW.block ?_
          refine AW.regS rfl ?_
          refine ARN.run1 (by simp (maxSteps := 1000000) only [go_sem, hri, g1, g2, hwi] <;> exact rfl) ?_
          refine ARN.pcall (fun hp => hcl) rfl (by simp (maxSteps := 1000000) only [go_sem, hri, g1, g2, hwi] <;> exact rfl) (by simp only [go_sem]) (by simp (maxSteps := 1000000) only [go_sem, hri, g1, g2, hwi] <;> exact rfl) ?_
          refine ARN.run1 (by simp (maxSteps := 1000000) only [go_sem, hri, g1, g2, hwi] <;> exact rfl) ?_
          refine ARN.fin (by first | (simp (disch := omega) only [go_sem, w64, wU, hri, g1, g2, hwi] <;> exact rfl) | exact rfl) ?_
          refine AW.regR rfl (by simp (maxSteps := 1000000) only [go_sem, hri, g1, g2, hwi] <;> exact rfl) (by first | (simp (disch := omega) only [go_sem, w64, wU, hri, g1, g2, hwi] <;> exact rfl) | exact rfl) ?_
          refine AW.cond (by simp (maxSteps := 1000000) only [go_sem, hri, g1, g2, hwi] <;> exact rfl) (fun hc4 => ?_) (fun hc4 => ?_)
          · try simp only [decide_eq_true_eq, decide_eq_false_iff_not, Bool.or_eq_true, Bool.or_eq_false_iff, Bool.and_eq_true, Bool.and_eq_false_imp, Bool.not_eq_true', Bool.not_eq_false'] at hc4
            refine AW.regR rfl (by simp (maxSteps := 1000000) only [go_sem, hri, g1, g2, hwi] <;> exact rfl) (by first | (simp (disch := omega) only [go_sem, w64, wU, hri, g1, g2, hwi] <;> exact rfl) | exact rfl) ?_
            refine retK.fin rfl (by simp (maxSteps := 1000000) only [go_sem, hri, g1, g2, hwi] <;> exact rfl) (by simp (maxSteps := 1000000) only [go_sem, hri, g1, g2, hwi] <;> exact rfl) (.of ?_)
            rw [check_0 hg (by rw [badF_at hi3 hi1 g2 hc4]; exact hc4), badF_at hi3 hi1 g2 hc4]
          · try simp only [decide_eq_true_eq, decide_eq_false_iff_not, Bool.or_eq_true, Bool.or_eq_false_iff, Bool.and_eq_true, Bool.and_eq_false_imp, Bool.not_eq_true', Bool.not_eq_false'] at hc4
            refine AW.skip ?_
            show AW _ _ _ _ _
            refine AW.regR1 rfl (by simp (maxSteps := 1000000) only [go_sem, hri, g1, g2, hwi] <;> exact rfl) (by first | (simp (disch := omega) only [go_sem, w64, wU, hri, g1, g2, hwi] <;> exact rfl) | exact rfl) ?_
            refine ⟨(i + 1), ?_, ?_, ?_⟩
            · (try dsimp only); omega
            · exact ⟨by omega, by omega, badF_go hi3 hi1 g2 hc4⟩
            · refine Wk.sub ?_
              simp (maxSteps := 1000000) (disch := omega) only [go_sem, w64, wU, hri, g1, g2, hwi]
        · try simp only [decide_eq_true_eq, decide_eq_false_iff_not, Bool.or_eq_true, Bool.or_eq_false_iff, Bool.and_eq_true, Bool.and_eq_false_imp, Bool.not_eq_true', Bool.not_eq_false'] at hc3
          have hz0 : (codeE p.c0 0).2 = 0 := by rw [badF_fin hi3 hc3]
          refine AW.exit ?_
          show AW _ _ _ _ _
          refine AW.regR1 rfl (by simp (maxSteps := 1000000) only [go_sem] <;> exact rfl) (by first | (simp (disch := omega) only [go_sem, w64, wU] <;> exact rfl) | exact rfl) ?_
          show ARounds _ _ _ _ _ _
          refine ARounds.mk ?_
          refine AW.seq ?_
          refine AW.regR rfl (by simp (maxSteps := 1000000) only [go_sem] <;> exact rfl) (by first | (simp (disch := omega) only [go_sem, w64, wU] <;> exact rfl) | exact rfl) ?_
          refine AW.condT (by simp (maxSteps := 1000000) only [go_sem] <;> exact rfl) ?_
          refine AW.skip ?_
          show AW _ _ _ _ _
          refine AW.seq ?_
          refine AW.block ?_
          refine AW.regR rfl (by simp (maxSteps := 1000000) only [go_sem] <;> exact rfl) (by first | (simp (disch := omega) only [go_sem, w64, wU] <;> exact rfl) | exact rfl) ?_
          refine AW.seq ?_
          refine AW.regR rfl (by simp (maxSteps := 1000000) only [go_sem] <;> exact rfl) (by first | (simp (disch := omega) only [go_sem, w64, wU] <;> exact rfl) | exact rfl) ?_
          refine AW.cond (by simp (maxSteps := 1000000) only [go_sem] <;> exact rfl) (fun hc5 => ?_) (fun hc5 => ?_)
          · try simp only [decide_eq_true_eq, decide_eq_false_iff_not, Bool.or_eq_true, Bool.or_eq_false_iff, Bool.and_eq_true, Bool.and_eq_false_imp, Bool.not_eq_true', Bool.not_eq_false'] at hc5
            refine AW.regR rfl (by simp (maxSteps := 1000000) only [go_sem] <;> exact rfl) (by first | (simp (disch := omega) only [go_sem, w64, wU] <;> exact rfl) | exact rfl) ?_
            refine retK.fin rfl (by simp (maxSteps := 1000000) only [go_sem] <;> exact rfl) (by simp (maxSteps := 1000000) only [go_sem] <;> exact rfl) (.of ?_)
            rw [check_1 hg hz0 (by rw [codeE_out (by omega)]; decide), codeE_out (by omega)]
          · try simp only [decide_eq_true_eq, decide_eq_false_iff_not, Bool.or_eq_true, Bool.or_eq_false_iff, Bool.and_eq_true, Bool.and_eq_false_imp, Bool.not_eq_true', Bool.not_eq_false'] at hc5
            refine AW.skip ?_
            show AW _ _ _ _ _
            refine AW.regR rfl (by simp (maxSteps := 1000000) only [go_sem] <;> exact rfl) (by first | (simp (disch := omega) only [go_sem, w64, wU] <;> exact rfl) | exact rfl) ?_
            refine AW.block ?_
            refine AW.loopVh (α := (Int)) (fun (j : (Int)) => [(7, .pv (.int .i64 j)), (51, .any), (52, .any), (53, .any)]) (fun (j : (Int)) => (0 ≤ j) ∧ (j ≤ (p.c1.length : Int)) ∧ (codeE p.c1 1 = badF p.c1 1 (p.c1.length - j.toNat) j.toNat)) (fun (j : (Int)) => ((p.c1.length : Int) - j).toNat) 0 ?_ ?_ ?_
            · exact ⟨by omega, by omega, codeE_in (by omega)⟩
            · refine Wk.sub ?_
              simp (maxSteps := 1000000) (disch := omega) only [go_sem, w64, wU]
            · rintro j hF _ ht
              simp only [updT, go_sem] at ht
              subst ht
              obtain ⟨hj1, hj2, hj3⟩ := hF
              refine AW.seq ?_
              refine AW.regR rfl (by simp (maxSteps := 1000000) only [go_sem] <;> exact rfl) (by first | (simp (disch := omega) only [go_sem, w64, wU] <;> exact rfl) | exact rfl) ?_
              refine AW.cond (by simp (maxSteps := 1000000) only [go_sem] <;> exact rfl) (fun hc6 => ?_) (fun hc6 => ?_)
              · try simp only [decide_eq_true_eq, decide_eq_false_iff_not, Bool.or_eq_true, Bool.or_eq_false_iff, Bool.and_eq_true, Bool.and_eq_false_imp, Bool.not_eq_true', Bool.not_eq_false'] at hc6
                have hrj : (p.c1.map inR)[j.toNat]? = some (inR (p.c1.getD j.toNat i0)) := inx_at ⟨hj1, hc6⟩
                have g1 : 0 ≤ j := hj1
                have g2 : j < (p.c1.length : Int) := hc6
                have hwj : IntKind.i64.wrap (j + 1) = j + 1 := w64 (by omega) (by omega)
                have hcl : PC Tryd.prog 16 [.agg [.int .i64 (p.c1.getD j.toNat i0).1, .int .i64 (p.c1.getD j.toNat i0).2.1, .int .i64 (p.c1.getD j.toNat i0).2.2.1, .int .i64 (p.c1.getD j.toNat i0).2.2.2.1, .int .u64 (p.c1.getD j.toNat i0).2.2.2.2], .int .i64 1, .int .i64 (p.c1.length : Int)] (.int .i64 (badI p.c1 1 j.toNat)) := c16 _ _ _ _ _ 1 _ (wp.c1 _ (getD_mem (by omega)))
                refine AW.skip ?_
                show AW _ _ _ _ _
                refine AW.seq ?_
                refine AW.block ?_
                refine AW.regS rfl ?_
                refine ARN.run1 (by simp (maxSteps := 1000000) only [go_sem, hrj, g1, g2, hwj] <;> exact rfl) ?_
                refine ARN.pcall (fun hp => hcl) rfl (by simp (maxSteps := 1000000) only [go_sem, hrj, g1, g2, hwj] <;> exact rfl) (by simp only [go_sem]) (by simp (maxSteps := 1000000) only [go_sem, hrj, g1, g2, hwj] <;> exact rfl) ?_
                refine ARN.run1 (by simp (maxSteps := 1000000) only [go_sem, hrj, g1, g2, hwj] <;> exact rfl) ?_
                refine ARN.fin (by first | (simp (disch := omega) only [go_sem, w64, wU, hrj, g1, g2, hwj] <;> exact rfl) | exact rfl) ?_
                refine AW.regR rfl (by simp (maxSteps := 1000000) only [go_sem, hrj, g1, g2, hwj] <;> exact rfl) (by first | (simp (disch := omega) only [go_sem, w64, wU, hrj, g1, g2, hwj] <;> exact rfl) | exact rfl) ?_
                refine AW.cond (by simp (maxSteps := 1000000) only [go_sem, hrj, g1, g2, hwj] <;> exact rfl) (fun hc7 => ?_) (fun hc7 => ?_)
                · try simp only [decide_eq_true_eq, decide_eq_false_iff_not, Bool.or_eq_true, Bool.or_eq_false_iff, Bool.and_eq_true, Bool.and_eq_false_imp, Bool.not_eq_true', Bool.not_eq_false'] at hc7
                  refine AW.regR rfl (by simp (maxSteps := 1000000) only [go_sem, hrj, g1, g2, hwj] <;> exact rfl) (by first | (simp (disch := omega) only [go_sem, w64, wU, hrj, g1, g2, hwj] <;> exact rfl) | exact rfl) ?_
                  refine retK.fin rfl (by simp (maxSteps := 1000000) only [go_sem, hrj, g1, g2, hwj] <;> exact rfl) (by simp (maxSteps := 1000000) only [go_sem, hrj, g1, g2, hwj] <;> exact rfl) (.of ?_)
                  rw [check_1 hg hz0 (by rw [badF_at hj3 hj1 g2 hc7]; exact hc7), badF_at hj3 hj1 g2 hc7]
                · try simp only [decide_eq_true_eq, decide_eq_false_iff_not, Bool.or_eq_true, Bool.or_eq_false_iff, Bool.and_eq_true, Bool.and_eq_false_imp, Bool.not_eq_true', Bool.not_eq_false'] at hc7
                  refine AW.skip ?_
                  show AW _ _ _ _ _
                  refine AW.regR1 rfl (by simp (maxSteps := 1000000) only [go_sem, hrj, g1, g2, hwj] <;> exact rfl) (by first | (simp (disch := omega) only [go_sem, w64, wU, hrj, g1, g2, hwj] <;> exact rfl) | exact rfl) ?_
                  refine ⟨(j + 1), ?_, ?_, ?_⟩
                  · (try dsimp only); omega
                  · exact ⟨by omega, by omega, badF_go hj3 hj1 g2 hc7⟩
                  · refine Wk.sub ?_
                    simp (maxSteps := 1000000) (disch := omega) only [go_sem, w64, wU, hrj, g1, g2, hwj]
              · try simp only [decide_eq_true_eq, decide_eq_false_iff_not, Bool.or_eq_true, Bool.or_eq_false_iff, Bool.and_eq_true, Bool.and_eq_false_imp, Bool.not_eq_true', Bool.not_eq_false'] at hc6
                have hz1 : (codeE p.c1 1).2 = 0 := by rw [badF_fin hj3 hc6]
                refine AW.exit ?_
                show AW _ _ _ _ _
                refine AW.regR1 rfl (by simp (maxSteps := 1000000) only [go_sem] <;> exact rfl) (by first | (simp (disch := omega) only [go_sem, w64, wU] <;> exact rfl) | exact rfl) ?_
                show ARounds _ _ _ _ _ _
                refine ARounds.mk ?_
                refine AW.seq ?_
                refine AW.regR rfl (by simp (maxSteps := 1000000) only [go_sem] <;> exact rfl) (by first | (simp (disch := omega) only [go_sem, w64, wU] <;> exact rfl) | exact rfl) ?_
                refine AW.condT (by simp (maxSteps := 1000000) only [go_sem] <;> exact rfl) ?_
                refine AW.skip ?_
                show AW _ _ _ _ _
                refine AW.seq ?_
                refine AW.block ?_
                refine AW.regR rfl (by simp (maxSteps := 1000000) only [go_sem] <;> exact rfl) (by first | (simp (disch := omega) only [go_sem, w64, wU] <;> exact rfl) | exact rfl) ?_
                refine AW.seq ?_
                refine AW.regR rfl (by simp (maxSteps := 1000000) only [go_sem] <;> exact rfl) (by first | (simp (disch := omega) only [go_sem, w64, wU] <;> exact rfl) | exact rfl) ?_
                refine AW.cond (by simp (maxSteps := 1000000) only [go_sem] <;> exact rfl) (fun hc8 => ?_) (fun hc8 => ?_)
                · try simp only [decide_eq_true_eq, decide_eq_false_iff_not, Bool.or_eq_true, Bool.or_eq_false_iff, Bool.and_eq_true, Bool.and_eq_false_imp, Bool.not_eq_true', Bool.not_eq_false'] at hc8
                  refine AW.regR rfl (by simp (maxSteps := 1000000) only [go_sem] <;> exact rfl) (by first | (simp (disch := omega) only [go_sem, w64, wU] <;> exact rfl) | exact rfl) ?_
                  refine retK.fin rfl (by simp (maxSteps := 1000000) only [go_sem] <;> exact rfl) (by simp (maxSteps := 1000000) only [go_sem] <;> exact rfl) (.of ?_)
                  rw [check_2 hg hz0 hz1 (by rw [codeE_out (by omega)]; decide), codeE_out (by omega)]
                · try simp only [decide_eq_true_eq, decide_eq_false_iff_not, Bool.or_eq_true, Bool.or_eq_false_iff, Bool.and_eq_true, Bool.and_eq_false_imp, Bool.not_eq_true', Bool.not_eq_false'] at hc8
                  refine AW.skip ?_
                  show AW _ _ _ _ _
                  refine AW.regR rfl (by simp (maxSteps := 1000000) only [go_sem] <;> exact rfl) (by first | (simp (disch := omega) only [go_sem, w64, wU] <;> exact rfl) | exact rfl) ?_
                  refine AW.block ?_
                  refine AW.loopVh (α := (Int)) (fun (k : (Int)) => [(7, .pv (.int .i64 k)), (51, .any), (52, .any), (53, .any)]) (fun (k : (Int)) => (0 ≤ k) ∧ (k ≤ (p.c2.length : Int)) ∧ (codeE p.c2 2 = badF p.c2 2 (p.c2.length - k.toNat) k.toNat)) (fun (k : (Int)) => ((p.c2.length : Int) - k).toNat) 0 ?_ ?_ ?_
                  · exact ⟨by omega, by omega, codeE_in (by omega)⟩
                  · refine Wk.sub ?_
                    simp (maxSteps := 1000000) (disch := omega) only [go_sem, w64, wU]
                  · rintro k hF _ ht
                    simp only [updT, go_sem] at ht
                    subst ht
                    obtain ⟨hk1, hk2, hk3⟩ := hF
                    refine AW.seq ?_
                    refine AW.regR rfl (by simp (maxSteps := 1000000) only [go_sem] <;> exact rfl) (by first | (simp (disch := omega) only [go_sem, w64, wU] <;> exact rfl) | exact rfl) ?_
                    refine AW.cond (by simp (maxSteps := 1000000) only [go_sem] <;> exact rfl) (fun hc9 => ?_) (fun hc9 => ?_)
                    · try simp only [decide_eq_true_eq, decide_eq_false_iff_not, Bool.or_eq_true, Bool.or_eq_false_iff, Bool.and_eq_true, Bool.and_eq_false_imp, Bool.not_eq_true', Bool.not_eq_false'] at hc9
                      have hrk : (p.c2.map inR)[k.toNat]? = some (inR (p.c2.getD k.toNat i0)) := inx_at ⟨hk1, hc9⟩
                      have g1 : 0 ≤ k := hk1
                      have g2 : k < (p.c2.length : Int) := hc9
                      have hwk : IntKind.i64.wrap (k + 1) = k + 1 := w64 (by omega) (by omega)
                      have hcl : PC Tryd.prog 16 [.agg [.int .i64 (p.c2.getD k.toNat i0).1, .int .i64 (p.c2.getD k.toNat i0).2.1, .int .i64 (p.c2.getD k.toNat i0).2.2.1, .int .i64 (p.c2.getD k.toNat i0).2.2.2.1, .int .u64 (p.c2.getD k.toNat i0).2.2.2.2], .int .i64 2, .int .i64 (p.c2.length : Int)] (.int .i64 (badI p.c2 2 k.toNat)) := c16 _ _ _ _ _ 2 _ (wp.c2 _ (getD_mem (by omega)))
                      refine AW.skip ?_
                      show AW _ _ _ _ _
                      refine AW.seq ?_
                      refine AW.block ?_
                      refine AW.regS rfl ?_
                      refine ARN.run1 (by simp (maxSteps := 1000000) only [go_sem, hrk, g1, g2, hwk] <;> exact rfl) ?_
                      refine ARN.pcall (fun hp => hcl) rfl (by simp (maxSteps := 1000000) only [go_sem, hrk, g1, g2, hwk] <;> exact rfl) (by simp only [go_sem]) (by simp (maxSteps := 1000000) only [go_sem, hrk, g1, g2, hwk] <;> exact rfl) ?_
                      refine ARN.run1 (by simp (maxSteps := 1000000) only [go_sem, hrk, g1, g2, hwk] <;> exact rfl) ?_
                      refine ARN.fin (by first | (simp (disch := omega) only [go_sem, w64, wU, hrk, g1, g2, hwk] <;> exact rfl) | exact rfl) ?_
                      refine AW.regR rfl (by simp (maxSteps := 1000000) only [go_sem, hrk, g1, g2, hwk] <;> exact rfl) (by first | (simp (disch := omega) only [go_sem, w64, wU, hrk, g1, g2, hwk] <;> exact rfl) | exact rfl) ?_
                      refine AW.cond (by simp (maxSteps := 1000000) only [go_sem, hrk, g1, g2, hwk] <;> exact rfl) (fun hc10 => ?_) (fun hc10 => ?_)
                      · try simp only [decide_eq_true_eq, decide_eq_false_iff_not, Bool.or_eq_true, Bool.or_eq_false_iff, Bool.and_eq_true, Bool.and_eq_false_imp, Bool.not_eq_true', Bool.not_eq_false'] at hc10
                        refine AW.regR rfl (by simp (maxSteps := 1000000) only [go_sem, hrk, g1, g2, hwk] <;> exact rfl) (by first | (simp (disch := omega) only [go_sem, w64, wU, hrk, g1, g2, hwk] <;> exact rfl) | exact rfl) ?_
                        refine retK.fin rfl (by simp (maxSteps := 1000000) only [go_sem, hrk, g1, g2, hwk] <;> exact rfl) (by simp (maxSteps := 1000000) only [go_sem, hrk, g1, g2, hwk] <;> exact rfl) (.of ?_)
                        rw [check_2 hg hz0 hz1 (by rw [badF_at hk3 hk1 g2 hc10]; exact hc10), badF_at hk3 hk1 g2 hc10]
                      · try simp only [decide_eq_true_eq, decide_eq_false_iff_not, Bool.or_eq_true, Bool.or_eq_false_iff, Bool.and_eq_true, Bool.and_eq_false_imp, Bool.not_eq_true', Bool.not_eq_false'] at hc10
                        refine AW.skip ?_
                        show AW _ _ _ _ _
                        refine AW.regR1 rfl (by simp (maxSteps := 1000000) only [go_sem, hrk, g1, g2, hwk] <;> exact rfl) (by first | (simp (disch := omega) only [go_sem, w64, wU, hrk, g1, g2, hwk] <;> exact rfl) | exact rfl) ?_
                        refine ⟨(k + 1), ?_, ?_, ?_⟩
                        · (try dsimp only); omega
                        · exact ⟨by omega, by omega, badF_go hk3 hk1 g2 hc10⟩
                        · refine Wk.sub ?_
                          simp (maxSteps := 1000000) (disch := omega) only [go_sem, w64, wU, hrk, g1, g2, hwk]
                    · try simp only [decide_eq_true_eq, decide_eq_false_iff_not, Bool.or_eq_true, Bool.or_eq_false_iff, Bool.and_eq_true, Bool.and_eq_false_imp, Bool.not_eq_true', Bool.not_eq_false'] at hc9
                      refine AW.exit ?_
                      show AW _ _ _ _ _
                      refine AW.regR1 rfl (by simp (maxSteps := 1000000) only [go_sem] <;> exact rfl) (by first | (simp (disch := omega) only [go_sem, w64, wU] <;> exact rfl) | exact rfl) ?_
                      show ARounds _ _ _ _ _ _
                      refine ARounds.mk ?_
                      refine AW.seq ?_
                      refine AW.regR rfl (by simp (maxSteps := 1000000) only [go_sem] <;> exact rfl) (by first | (simp (disch := omega) only [go_sem, w64, wU] <;> exact rfl) | exact rfl) ?_
                      refine AW.condF (by simp (maxSteps := 1000000) only [go_sem] <;> exact rfl) ?_
                      refine AW.exit ?_
                      show AW _ _ _ _ _
                      refine AW.regR rfl (by simp (maxSteps := 1000000) only [go_sem] <;> exact rfl) (by first | (simp (disch := omega) only [go_sem, w64, wU] <;> exact rfl) | exact rfl) ?_
                      refine retK.fin rfl (by simp (maxSteps := 1000000) only [go_sem] <;> exact rfl) (by simp (maxSteps := 1000000) only [go_sem] <;> exact rfl) (.of ?_)
                      rw [check_ok hg hz0 hz1 (by rw [badF_fin hk3 hc9])]
theorem c15 (p : Pg) (wp : OkPg p) (sp : smP p) : PC Tryd.prog 15 [pgV p] (errV (checkP p)) := by
  refine PC.start 47 Tryd.call15 Tryd.func15 rfl Tryd.ntmps15 Tryd.results15 (by simp only [go_sem]; exact rfl) fun z hz => ?_
  refine AW.regR rfl (by simp (maxSteps := 1000000) only [go_sem] <;> exact rfl) (by first | (simp (disch := omega) only [go_sem, w64, wU] <;> exact rfl) | exact rfl) ?_
  refine AW.seq ?_
  refine AW.regR rfl (by simp (maxSteps := 1000000) only [go_sem] <;> exact rfl) (by first | (simp (disch := omega) only [go_sem, w64, wU] <;> exact rfl) | exact rfl) ?_
  refine AW.cond (by simp (maxSteps := 1000000) only [go_sem] <;> exact rfl) (fun hc1 => ?_) (fun hc1 => ?_)
  · try simp only [decide_eq_true_eq, decide_eq_false_iff_not, Bool.or_eq_true, Bool.or_eq_false_iff, Bool.and_eq_true, Bool.and_eq_false_imp, Bool.not_eq_true', Bool.not_eq_false'] at hc1
    refine AW.regL ?_
    refine AWL.runG (by simp (maxSteps := 1000000) only [go_sem] <;> exact rfl) ?_
    refine AWL.mkifcA (by simp (maxSteps := 1000000) only [go_sem] <;> exact rfl) rfl Tryd.underlying48 (fun _ h => by cases h) (by simp (maxSteps := 1000000) only [go_sem] <;> exact rfl) (by simp (maxSteps := 1000000) only [go_sem] <;> exact rfl) (by simp (maxSteps := 1000000) only [go_sem] <;> exact rfl) ?_
    refine AWL.runG (by simp (maxSteps := 1000000) only [go_sem] <;> exact rfl) ?_
    refine AWL.fin (by first | (simp (disch := omega) only [go_sem, w64, wU] <;> exact rfl) | exact rfl) ?_
    refine retK.fin rfl (by simp (maxSteps := 1000000) only [go_sem] <;> exact rfl) (by simp (maxSteps := 1000000) only [go_sem] <;> exact rfl) (.of ?_)
    rw [check_geo (by unfold geoB; omega)]
    exact (err_some (x := (0, 0, 17)) (show ¬ ((17 : Int) = 0) by decide)).symm
  · try simp only [decide_eq_true_eq, decide_eq_false_iff_not, Bool.or_eq_true, Bool.or_eq_false_iff, Bool.and_eq_true, Bool.and_eq_false_imp, Bool.not_eq_true', Bool.not_eq_false'] at hc1
    refine AW.skip ?_
    show AW _ _ _ _ _
    refine AW.seq ?_
    have hg : ¬ geoB p := by unfold geoB; omega
    refine AW.regR rfl (by simp (maxSteps := 1000000) only [go_sem] <;> exact rfl) (by first | (simp (disch := omega) only [go_sem, w64, wU] <;> exact rfl) | exact rfl) ?_
    refine AW.block ?_
    refine AW.rounds 4 ?_
    refine ARounds.mk ?_
    refine AW.regR rfl (by simp (maxSteps := 1000000) only [go_sem] <;> exact rfl) (by first | (simp (disch := omega) only [go_sem, w64, wU] <;> exact rfl) | exact rfl) ?_
    refine AW.seq ?_
    refine AW.condT (by simp (maxSteps := 1000000) only [go_sem] <;> exact rfl) ?_
    refine AW.skip ?_
    show AW _ _ _ _ _
    refine AW.seq ?_
    refine AW.block ?_
    refine AW.regR rfl (by simp (maxSteps := 1000000) only [go_sem] <;> exact rfl) (by first | (simp (disch := omega) only [go_sem, w64, wU] <;> exact rfl) | exact rfl) ?_
    refine AW.regS rfl ?_
    refine ARN.run1 (by simp (maxSteps := 1000000) only [go_sem] <;> exact rfl) ?_
    refine ARN.pcall (fun hp => c27 0 p.c0 false sp.c0 wp.c0) rfl (by simp (maxSteps := 1000000) only [go_sem] <;> exact rfl) (by simp only [go_sem]) (by simp (maxSteps := 1000000) only [go_sem] <;> exact rfl) ?_
    refine ARN.run1 (by simp (maxSteps := 1000000) only [go_sem] <;> exact rfl) ?_
    refine ARN.fin (by first | (simp (disch := omega) only [go_sem, w64, wU] <;> exact rfl) | exact rfl) ?_
    refine AW.regL ?_
    refine AWL.runGP 1 rfl rfl (by simp (maxSteps := 1000000) only [go_sem] <;> exact rfl) ?_
    refine AWL.ifne (by simp (maxSteps := 1000000) only [go_sem] <;> exact rfl) rfl (by kernel_rfl) (by simp (maxSteps := 1000000) only [go_sem] <;> exact rfl) (isIfc_err _) (by simp (maxSteps := 1000000) only [go_sem] <;> exact rfl) ?_
    refine AWL.fin (by first | (simp (disch := omega) only [go_sem, w64, wU] <;> exact rfl) | exact rfl) ?_
    refine AW.cond (by simp (maxSteps := 1000000) only [go_sem] <;> exact rfl) (fun hc2 => ?_) (fun hc2 => ?_)
    · try simp only [decide_eq_true_eq, decide_eq_false_iff_not, Bool.or_eq_true, Bool.or_eq_false_iff, Bool.and_eq_true, Bool.and_eq_false_imp, Bool.not_eq_true', Bool.not_eq_false'] at hc2
      refine AW.regR rfl (by simp (maxSteps := 1000000) only [go_sem] <;> exact rfl) (by first | (simp (disch := omega) only [go_sem, w64, wU] <;> exact rfl) | exact rfl) ?_
      refine retK.fin rfl (by simp (maxSteps := 1000000) only [go_sem] <;> exact rfl) (by simp (maxSteps := 1000000) only [go_sem] <;> exact rfl) (.of ?_)
      rw [check_0 hg hc2]
    · try simp only [decide_eq_true_eq, decide_eq_false_iff_not, Bool.or_eq_true, Bool.or_eq_false_iff, Bool.and_eq_true, Bool.and_eq_false_imp, Bool.not_eq_true', Bool.not_eq_false'] at hc2
      refine AW.skip ?_
      show AW _ _ _ _ _
      refine AW.regR1 rfl (by simp (maxSteps := 1000000) only [go_sem] <;> exact rfl) (by first | (simp (disch := omega) only [go_sem, w64, wU] <;> exact rfl) | exact rfl) ?_
      show ARounds _ _ _ _ _ _
      refine ARounds.mk ?_
      refine AW.regR rfl (by simp (maxSteps := 1000000) only [go_sem] <;> exact rfl) (by first | (simp (disch := omega) only [go_sem, w64, wU] <;> exact rfl) | exact rfl) ?_
      refine AW.seq ?_
      refine AW.condT (by simp (maxSteps := 1000000) only [go_sem] <;> exact rfl) ?_
      refine AW.skip ?_
      show AW _ _ _ _ _
      refine AW.seq ?_
      refine AW.block ?_
      refine AW.regR rfl (by simp (maxSteps := 1000000) only [go_sem] <;> exact rfl) (by first | (simp (disch := omega) only [go_sem, w64, wU] <;> exact rfl) | exact rfl) ?_
      refine AW.regS rfl ?_
      refine ARN.run1 (by simp (maxSteps := 1000000) only [go_sem] <;> exact rfl) ?_
      refine ARN.pcall (fun hp => c27 1 p.c1 false sp.c1 wp.c1) rfl (by simp (maxSteps := 1000000) only [go_sem] <;> exact rfl) (by simp only [go_sem]) (by simp (maxSteps := 1000000) only [go_sem] <;> exact rfl) ?_
      refine ARN.run1 (by simp (maxSteps := 1000000) only [go_sem] <;> exact rfl) ?_
      refine ARN.fin (by first | (simp (disch := omega) only [go_sem, w64, wU] <;> exact rfl) | exact rfl) ?_
      refine AW.regL ?_
      refine AWL.runGP 1 rfl rfl (by simp (maxSteps := 1000000) only [go_sem] <;> exact rfl) ?_
      refine AWL.ifne (by simp (maxSteps := 1000000) only [go_sem] <;> exact rfl) rfl (by kernel_rfl) (by simp (maxSteps := 1000000) only [go_sem] <;> exact rfl) (isIfc_err _) (by simp (maxSteps := 1000000) only [go_sem] <;> exact rfl) ?_
      refine AWL.fin (by first | (simp (disch := omega) only [go_sem, w64, wU] <;> exact rfl) | exact rfl) ?_
      refine AW.cond (by simp (maxSteps := 1000000) only [go_sem] <;> exact rfl) (fun hc3 => ?_) (fun hc3 => ?_)
      · try simp only [decide_eq_true_eq, decide_eq_false_iff_not, Bool.or_eq_true, Bool.or_eq_false_iff, Bool.and_eq_true, Bool.and_eq_false_imp, Bool.not_eq_true', Bool.not_eq_false'] at hc3
        refine AW.regR rfl (by simp (maxSteps := 1000000) only [go_sem] <;> exact rfl) (by first | (simp (disch := omega) only [go_sem, w64, wU] <;> exact rfl) | exact rfl) ?_
        refine retK.fin rfl (by simp (maxSteps := 1000000) only [go_sem] <;> exact rfl) (by simp (maxSteps := 1000000) only [go_sem] <;> exact rfl) (.of ?_)
        rw [check_1 hg hc2 hc3]
      · try simp only [decide_eq_true_eq, decide_eq_false_iff_not, Bool.or_eq_true, Bool.or_eq_false_iff, Bool.and_eq_true, Bool.and_eq_false_imp, Bool.not_eq_true', Bool.not_eq_false'] at hc3
        refine AW.skip ?_
        show AW _ _ _ _ _
        refine AW.regR1 rfl (by simp (maxSteps := 1000000) only [go_sem] <;> exact rfl) (by first | (simp (disch := omega) only [go_sem, w64, wU] <;> exact rfl) | exact rfl) ?_
        show ARounds _ _ _ _ _ _
        refine ARounds.mk ?_
        refine AW.regR rfl (by simp (maxSteps := 1000000) only [go_sem] <;> exact rfl) (by first | (simp (disch := omega) only [go_sem, w64, wU] <;> exact rfl) | exact rfl) ?_
        refine AW.seq ?_
        refine AW.condT (by simp (maxSteps := 1000000) only [go_sem] <;> exact rfl) ?_
        refine AW.skip ?_
        show AW _ _ _ _ _
        refine AW.seq ?_
        refine AW.block ?_
        refine AW.regR rfl (by simp (maxSteps := 1000000) only [go_sem] <;> exact rfl) (by first | (simp (disch := omega) only [go_sem, w64, wU] <;> exact rfl) | exact rfl) ?_
        refine AW.regS rfl ?_
        refine ARN.run1 (by simp (maxSteps := 1000000) only [go_sem] <;> exact rfl) ?_
        refine ARN.pcall (fun hp => c27 2 p.c2 false sp.c2 wp.c2) rfl (by simp (maxSteps := 1000000) only [go_sem] <;> exact rfl) (by simp only [go_sem]) (by simp (maxSteps := 1000000) only [go_sem] <;> exact rfl) ?_
        refine ARN.run1 (by simp (maxSteps := 1000000) only [go_sem] <;> exact rfl) ?_
        refine ARN.fin (by first | (simp (disch := omega) only [go_sem, w64, wU] <;> exact rfl) | exact rfl) ?_
        refine AW.regL ?_
        refine AWL.runGP 1 rfl rfl (by simp (maxSteps := 1000000) only [go_sem] <;> exact rfl) ?_
        refine AWL.ifne (by simp (maxSteps := 1000000) only [go_sem] <;> exact rfl) rfl (by kernel_rfl) (by simp (maxSteps := 1000000) only [go_sem] <;> exact rfl) (isIfc_err _) (by simp (maxSteps := 1000000) only [go_sem] <;> exact rfl) ?_
        refine AWL.fin (by first | (simp (disch := omega) only [go_sem, w64, wU] <;> exact rfl) | exact rfl) ?_
        refine AW.cond (by simp (maxSteps := 1000000) only [go_sem] <;> exact rfl) (fun hc4 => ?_) (fun hc4 => ?_)
        · try simp only [decide_eq_true_eq, decide_eq_false_iff_not, Bool.or_eq_true, Bool.or_eq_false_iff, Bool.and_eq_true, Bool.and_eq_false_imp, Bool.not_eq_true', Bool.not_eq_false'] at hc4
          refine AW.regR rfl (by simp (maxSteps := 1000000) only [go_sem] <;> exact rfl) (by first | (simp (disch := omega) only [go_sem, w64, wU] <;> exact rfl) | exact rfl) ?_
          refine retK.fin rfl (by simp (maxSteps := 1000000) only [go_sem] <;> exact rfl) (by simp (maxSteps := 1000000) only [go_sem] <;> exact rfl) (.of ?_)
          rw [check_2 hg hc2 hc3 hc4]
        · try simp only [decide_eq_true_eq, decide_eq_false_iff_not, Bool.or_eq_true, Bool.or_eq_false_iff, Bool.and_eq_true, Bool.and_eq_false_imp, Bool.not_eq_true', Bool.not_eq_false'] at hc4
          refine AW.skip ?_
          show AW _ _ _ _ _
          refine AW.regR1 rfl (by simp (maxSteps := 1000000) only [go_sem] <;> exact rfl) (by first | (simp (disch := omega) only [go_sem, w64, wU] <;> exact rfl) | exact rfl) ?_
          show ARounds _ _ _ _ _ _
          refine ARounds.mk ?_
          refine AW.regR rfl (by simp (maxSteps := 1000000) only [go_sem] <;> exact rfl) (by first | (simp (disch := omega) only [go_sem, w64, wU] <;> exact rfl) | exact rfl) ?_
          refine AW.seq ?_
          refine AW.condF (by simp (maxSteps := 1000000) only [go_sem] <;> exact rfl) ?_
          refine AW.exit ?_
          show AW _ _ _ _ _
          refine AW.regR rfl (by simp (maxSteps := 1000000) only [go_sem] <;> exact rfl) (by first | (simp (disch := omega) only [go_sem, w64, wU] <;> exact rfl) | exact rfl) ?_
          refine retK.fin rfl (by simp (maxSteps := 1000000) only [go_sem] <;> exact rfl) (by simp (maxSteps := 1000000) only [go_sem] <;> exact rfl) (.of ?_)
          rw [check_ok hg hc2 hc3 hc4]
          exact (err_nil rfl).symm
theorem c7 (p : Pg) (wp : OkPg p) (sp : smP p) : PC Tryd.prog 7 [pgV p] (.tup [.int .i64 (checkP p).1, .int .i64 (checkP p).2.1, .int .i64 (checkP p).2.2]) := by
  refine PC.start 16 Tryd.call7 Tryd.func7 rfl Tryd.ntmps7 Tryd.results7 (by simp only [go_sem]; exact rfl) fun z hz => ?_
  refine AW.regR rfl (by simp (maxSteps := 1000000) only [go_sem] <;> exact rfl) (by first | (simp (disch := omega) only [go_sem, w64, wU] <;> exact rfl) | exact rfl) ?_
  refine AW.regR rfl (by simp (maxSteps := 1000000) only [go_sem] <;> exact rfl) (by first | (simp (disch := omega) only [go_sem, w64, wU] <;> exact rfl) | exact rfl) ?_
  refine AW.seq ?_
  refine AW.regL ?_
  refine AWL.runG (by simp (maxSteps := 1000000) only [go_sem] <;> exact rfl) ?_
  refine AWL.pcall2 (c15 p wp sp) (by simp (maxSteps := 1000000) only [go_sem] <;> exact rfl) rfl (by simp (maxSteps := 1000000) only [go_sem] <;> exact rfl) (by simp (maxSteps := 1000000) only [go_sem] <;> exact rfl) ?_
  refine AWL.mkifc (by simp (maxSteps := 1000000) only [go_sem] <;> exact rfl) rfl Tryd.underlying53 (fun _ h => by cases h) (by simp (maxSteps := 1000000) only [go_sem] <;> exact rfl) (by simp (maxSteps := 1000000) only [go_sem] <;> exact rfl) ?_
  refine AWL.asErr check_zero (by simp (maxSteps := 1000000) only [go_sem] <;> exact rfl) rfl (by simp (maxSteps := 1000000) only [go_sem] <;> exact rfl) (by simp (maxSteps := 1000000) only [go_sem] <;> exact rfl) (by simp (maxSteps := 1000000) only [go_sem] <;> exact rfl) (by simp (maxSteps := 1000000) only [go_sem] <;> exact rfl) (by simp (maxSteps := 1000000) only [go_sem] <;> exact rfl) ?_
  refine AWL.fin (by first | (simp (disch := omega) only [go_sem, w64, wU] <;> exact rfl) | exact rfl) ?_
  refine AW.cond (by simp (maxSteps := 1000000) only [go_sem] <;> exact rfl) (fun hc1 => ?_) (fun hc1 => ?_)
  · try simp only [decide_eq_true_eq, decide_eq_false_iff_not, Bool.or_eq_true, Bool.or_eq_false_iff, Bool.and_eq_true, Bool.and_eq_false_imp, Bool.not_eq_true', Bool.not_eq_false'] at hc1
    refine AW.regDS follows (by kernel_rfl) ?_
    refine ARE.run1 (by simp (maxSteps := 1000000) only [go_sem] <;> exact rfl) ?_
    refine ARE.fin [0, 1, 0, 4, 0, 16, 3, 79, 255] _ (by kernel_rfl) (by simp (maxSteps := 1000000) only [go_sem] <;> exact rfl) (by kernel_rfl) (by first | (simp (disch := omega) only [go_sem, w64, wU] <;> exact rfl) | exact rfl) ?_
    refine retK.fin rfl (by simp (maxSteps := 1000000) only [go_sem] <;> exact rfl) (by simp (maxSteps := 1000000) only [go_sem] <;> exact rfl) (.of ?_)
    rfl
  · try simp only [decide_eq_true_eq, decide_eq_false_iff_not, Bool.or_eq_true, Bool.or_eq_false_iff, Bool.and_eq_true, Bool.and_eq_false_imp, Bool.not_eq_true', Bool.not_eq_false'] at hc1
    refine AW.skip ?_
    show AW _ _ _ _ _
    refine AW.regR rfl (by simp (maxSteps := 1000000) only [go_sem] <;> exact rfl) (by first | (simp (disch := omega) only [go_sem, w64, wU] <;> exact rfl) | exact rfl) ?_
    refine retK.fin rfl (by simp (maxSteps := 1000000) only [go_sem] <;> exact rfl) (by simp (maxSteps := 1000000) only [go_sem] <;> exact rfl) (.of ?_)
    rw [check_zero (by simpa using hc1)]
theorem c9 (l : List Int) (ok : OkB l) (hlen : l.length ≤ 100000) : PC Tryd.prog 9 [.str (strOf l)] (.tup [pgV (loadL l).1, .int .i64 (loadL l).2]) := by
  refine PC.start 29 Tryd.call9 Tryd.func9 rfl Tryd.ntmps9 Tryd.results9 (by simp only [go_sem]; exact rfl) fun z hz => ?_
  refine AW.regR rfl (by simp (maxSteps := 1000000) only [go_sem] <;> exact rfl) (by first | (simp (disch := omega) only [go_sem, w64, wU] <;> exact rfl) | exact rfl) ?_
  refine AW.regS rfl ?_
  refine ARN.run1 (by simp (maxSteps := 1000000) only [go_sem] <;> exact rfl) ?_
  refine ARN.pcall (fun hp => c17 l ok hlen) rfl (by simp (maxSteps := 1000000) only [go_sem] <;> exact rfl) (by simp only [go_sem]) (by simp (maxSteps := 1000000) only [go_sem] <;> exact rfl) ?_
  refine ARN.run1 (by simp (maxSteps := 1000000) only [go_sem] <;> exact rfl) ?_
  refine ARN.fin (by first | (simp (disch := omega) only [go_sem, w64, wU] <;> exact rfl) | exact rfl) ?_
  refine AW.seq ?_
  refine AW.regR rfl (by simp (maxSteps := 1000000) only [go_sem] <;> exact rfl) (by first | (simp (disch := omega) only [go_sem, w64, wU] <;> exact rfl) | exact rfl) ?_
  refine AW.cond (by simp (maxSteps := 1000000) only [go_sem] <;> exact rfl) (fun hc1 => ?_) (fun hc1 => ?_)
  · try simp only [decide_eq_true_eq, decide_eq_false_iff_not, Bool.or_eq_true, Bool.or_eq_false_iff, Bool.and_eq_true, Bool.and_eq_false_imp, Bool.not_eq_true', Bool.not_eq_false'] at hc1
    refine AW.regR rfl (by simp (maxSteps := 1000000) only [go_sem] <;> exact rfl) (by first | (simp (disch := omega) only [go_sem, w64, wU] <;> exact rfl) | exact rfl) ?_
    refine retK.fin rfl (by simp (maxSteps := 1000000) only [go_sem] <;> exact rfl) (by simp (maxSteps := 1000000) only [go_sem] <;> exact rfl) ?_
    rw [load_r hc1]
    exact Sub.tup ⟨sub_pg0, Sub.refl _, trivial⟩
  · try simp only [decide_eq_true_eq, decide_eq_false_iff_not, Bool.or_eq_true, Bool.or_eq_false_iff, Bool.and_eq_true, Bool.and_eq_false_imp, Bool.not_eq_true', Bool.not_eq_false'] at hc1
    refine AW.skip ?_
    show AW _ _ _ _ _
    refine AW.seq ?_
    refine AW.regS rfl ?_
    refine ARN.run1 (by simp (maxSteps := 1000000) only [go_sem] <;> exact rfl) ?_
    refine ARN.pcall (fun hp => c7 (readL l).1 (read_okpg ok).1 (read_okpg ok).2) rfl (by simp (maxSteps := 1000000) only [go_sem] <;> exact rfl) (by simp only [go_sem]) (by simp (maxSteps := 1000000) only [go_sem] <;> exact rfl) ?_
    refine ARN.run1 (by simp (maxSteps := 1000000) only [go_sem] <;> exact rfl) ?_
    refine ARN.fin (by first | (simp (disch := omega) only [go_sem, w64, wU] <;> exact rfl) | exact rfl) ?_
    refine AW.regR rfl (by simp (maxSteps := 1000000) only [go_sem] <;> exact rfl) (by first | (simp (disch := omega) only [go_sem, w64, wU] <;> exact rfl) | exact rfl) ?_
    refine AW.cond (by simp (maxSteps := 1000000) only [go_sem] <;> exact rfl) (fun hc2 => ?_) (fun hc2 => ?_)
    · try simp only [decide_eq_true_eq, decide_eq_false_iff_not, Bool.or_eq_true, Bool.or_eq_false_iff, Bool.and_eq_true, Bool.and_eq_false_imp, Bool.not_eq_true', Bool.not_eq_false'] at hc2
      refine AW.regR rfl (by simp (maxSteps := 1000000) only [go_sem] <;> exact rfl) (by first | (simp (disch := omega) only [go_sem, w64, wU] <;> exact rfl) | exact rfl) ?_
      refine retK.fin rfl (by simp (maxSteps := 1000000) only [go_sem] <;> exact rfl) (by simp (maxSteps := 1000000) only [go_sem] <;> exact rfl) ?_
      rw [load_c hc1 hc2]
      exact Sub.tup ⟨sub_pg0, Sub.refl _, trivial⟩
    · try simp only [decide_eq_true_eq, decide_eq_false_iff_not, Bool.or_eq_true, Bool.or_eq_false_iff, Bool.and_eq_true, Bool.and_eq_false_imp, Bool.not_eq_true', Bool.not_eq_false'] at hc2
      refine AW.skip ?_
      show AW _ _ _ _ _
      refine AW.regR rfl (by simp (maxSteps := 1000000) only [go_sem] <;> exact rfl) (by first | (simp (disch := omega) only [go_sem, w64, wU] <;> exact rfl) | exact rfl) ?_
      refine retK.fin rfl (by simp (maxSteps := 1000000) only [go_sem] <;> exact rfl) (by simp (maxSteps := 1000000) only [go_sem] <;> exact rfl) (.of ?_)
      rw [load_k hc1 hc2]
      rfl
theorem c10 (l : List Int) (ok : OkB l) (hlen : l.length ≤ 100000) : PC Tryd.prog 10 [.str (strOf l)] (.tup [pgV (loadL l).1, .int .i64 (loadL l).2]) := by
  refine PC.start 29 Tryd.call10 Tryd.func10 rfl Tryd.ntmps10 Tryd.results10 (by simp only [go_sem]; exact rfl) fun z hz => ?_
  refine AW.regR rfl (by simp (maxSteps := 1000000) only [go_sem] <;> exact rfl) (by first | (simp (disch := omega) only [go_sem, w64, wU] <;> exact rfl) | exact rfl) ?_
  refine AW.regS rfl ?_
  refine ARN.run1 (by simp (maxSteps := 1000000) only [go_sem] <;> exact rfl) ?_
  refine ARN.pcall (fun hp => c18 l ok hlen) rfl (by simp (maxSteps := 1000000) only [go_sem] <;> exact rfl) (by simp only [go_sem]) (by simp (maxSteps := 1000000) only [go_sem] <;> exact rfl) ?_
  refine ARN.run1 (by simp (maxSteps := 1000000) only [go_sem] <;> exact rfl) ?_
  refine ARN.fin (by first | (simp (disch := omega) only [go_sem, w64, wU] <;> exact rfl) | exact rfl) ?_
  refine AW.seq ?_
  refine AW.regR rfl (by simp (maxSteps := 1000000) only [go_sem] <;> exact rfl) (by first | (simp (disch := omega) only [go_sem, w64, wU] <;> exact rfl) | exact rfl) ?_
  refine AW.cond (by simp (maxSteps := 1000000) only [go_sem] <;> exact rfl) (fun hc1 => ?_) (fun hc1 => ?_)
  · try simp only [decide_eq_true_eq, decide_eq_false_iff_not, Bool.or_eq_true, Bool.or_eq_false_iff, Bool.and_eq_true, Bool.and_eq_false_imp, Bool.not_eq_true', Bool.not_eq_false'] at hc1
    refine AW.regR rfl (by simp (maxSteps := 1000000) only [go_sem] <;> exact rfl) (by first | (simp (disch := omega) only [go_sem, w64, wU] <;> exact rfl) | exact rfl) ?_
    refine retK.fin rfl (by simp (maxSteps := 1000000) only [go_sem] <;> exact rfl) (by simp (maxSteps := 1000000) only [go_sem] <;> exact rfl) ?_
    rw [load_r hc1]
    exact Sub.tup ⟨sub_pg0, Sub.refl _, trivial⟩
  · try simp only [decide_eq_true_eq, decide_eq_false_iff_not, Bool.or_eq_true, Bool.or_eq_false_iff, Bool.and_eq_true, Bool.and_eq_false_imp, Bool.not_eq_true', Bool.not_eq_false'] at hc1
    refine AW.skip ?_
    show AW _ _ _ _ _
    refine AW.seq ?_
    refine AW.regS rfl ?_
    refine ARN.run1 (by simp (maxSteps := 1000000) only [go_sem] <;> exact rfl) ?_
    refine ARN.pcall (fun hp => c8 (readL l).1 (read_okpg ok).1 (read_okpg ok).2) rfl (by simp (maxSteps := 1000000) only [go_sem] <;> exact rfl) (by simp only [go_sem]) (by simp (maxSteps := 1000000) only [go_sem] <;> exact rfl) ?_
    refine ARN.run1 (by simp (maxSteps := 1000000) only [go_sem] <;> exact rfl) ?_
    refine ARN.fin (by first | (simp (disch := omega) only [go_sem, w64, wU] <;> exact rfl) | exact rfl) ?_
    refine AW.regR rfl (by simp (maxSteps := 1000000) only [go_sem] <;> exact rfl) (by first | (simp (disch := omega) only [go_sem, w64, wU] <;> exact rfl) | exact rfl) ?_
    refine AW.cond (by simp (maxSteps := 1000000) only [go_sem] <;> exact rfl) (fun hc2 => ?_) (fun hc2 => ?_)
    · try simp only [decide_eq_true_eq, decide_eq_false_iff_not, Bool.or_eq_true, Bool.or_eq_false_iff, Bool.and_eq_true, Bool.and_eq_false_imp, Bool.not_eq_true', Bool.not_eq_false'] at hc2
      refine AW.regR rfl (by simp (maxSteps := 1000000) only [go_sem] <;> exact rfl) (by first | (simp (disch := omega) only [go_sem, w64, wU] <;> exact rfl) | exact rfl) ?_
      refine retK.fin rfl (by simp (maxSteps := 1000000) only [go_sem] <;> exact rfl) (by simp (maxSteps := 1000000) only [go_sem] <;> exact rfl) ?_
      rw [load_c hc1 hc2]
      exact Sub.tup ⟨sub_pg0, Sub.refl _, trivial⟩
    · try simp only [decide_eq_true_eq, decide_eq_false_iff_not, Bool.or_eq_true, Bool.or_eq_false_iff, Bool.and_eq_true, Bool.and_eq_false_imp, Bool.not_eq_true', Bool.not_eq_false'] at hc2
      refine AW.skip ?_
      show AW _ _ _ _ _
      refine AW.regR rfl (by simp (maxSteps := 1000000) only [go_sem] <;> exact rfl) (by first | (simp (disch := omega) only [go_sem, w64, wU] <;> exact rfl) | exact rfl) ?_
      refine retK.fin rfl (by simp (maxSteps := 1000000) only [go_sem] <;> exact rfl) (by simp (maxSteps := 1000000) only [go_sem] <;> exact rfl) (.of ?_)
      rw [load_k hc1 hc2]
      rfl
end Go.Ab.Tryd
