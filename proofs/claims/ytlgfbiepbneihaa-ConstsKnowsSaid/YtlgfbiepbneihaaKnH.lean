/- Facts of each place: the reference's. -/
import Derived.Test.YtlgfbiepbneihaaKnG
import Derived.Test.YtlgfbiepbneihaaQE
import Derived.Test.YtlgfbiepbneihaaDI
namespace Go.Ab.Try
open Go.Proofs Go.Ab
set_option linter.unusedVariables false
set_option linter.unusedSimpArgs false
set_option linter.unnecessarySimpa false
set_option maxRecDepth 100000
theorem c42 (code : List Ins) (hc : OkC code) (hL : code.length ≤ 100) : PC Try.prog 42 [.lst false 5 (code.map inR)] (.lst false 17 ((knownS code).map fR)) := by
  refine PC.start 83 Try.call42 Try.func42 rfl Try.ntmps42 Try.results42 (by simp only [go_sem]; exact rfl) fun z hz => ?_
  obtain ⟨R, hR⟩ : ∃ R, R = List.replicate code.length botF := ⟨_, rfl⟩
  have hw1 : IntKind.i64.wrap ((code.length : Int) + 1) = (code.length : Int) + 1 := w64 (by omega) (by omega)
  have g1 : (0 ≤ (code.length : Int) + 1) = True := eq_true (by omega)
  have g2 : (80 * ((code.length : Int) + 1) ≤ 281474976710656) = True := eq_true (by omega)
  have g3 : ((code.length : Int) + 1 ≤ 9223372036854775807) = True := eq_true (by omega)
  have g4 : ((code.length : Int) + 1).toNat = code.length + 1 := by omega
  have g5 := rep_f hR
  have g6 : (0 < ((code.length + 1 : Nat) : Int)) = True := eq_true (by omega)
  refine AW.regR rfl (by simp (maxSteps := 1000000) only [go_sem, updK, hw1, g1, g2, g3, g4, g5, g6] <;> exact rfl) (by first | (simp (disch := omega) only [go_sem, w64, wU, updK, hw1, g1, g2, g3, g4, g5, g6] <;> exact rfl) | exact rfl) ?_
  refine AW.regR rfl (by simp (maxSteps := 1000000) only [go_sem, updK, hw1, g1, g2, g3, g4, g5, g6] <;> exact rfl) (by first | (simp (disch := omega) only [go_sem, w64, wU, updK, hw1, g1, g2, g3, g4, g5, g6] <;> exact rfl) | exact rfl) ?_
  refine AW.regR rfl (by simp (maxSteps := 1000000) only [go_sem, updK, hw1, g1, g2, g3, g4, g5, g6] <;> exact rfl) (by first | (simp (disch := omega) only [go_sem, w64, wU, updK, hw1, g1, g2, g3, g4, g5, g6] <;> exact rfl) | exact rfl) ?_
  refine AW.seq ?_
  refine AW.regR rfl (by simp (maxSteps := 1000000) only [go_sem, updK, hw1, g1, g2, g3, g4, g5, g6] <;> exact rfl) (by first | (simp (disch := omega) only [go_sem, w64, wU, updK, hw1, g1, g2, g3, g4, g5, g6] <;> exact rfl) | exact rfl) ?_
  refine AW.block ?_
  refine AW.loopV (α := (Int) × (B8)) (fun ((r, B) : (Int) × (B8)) => [(4, .pv (.int .i64 r))]) (fun ((r, B) : (Int) × (B8)) => [.vec 17 (fR ⟨true, B, ⟨0, 0, 0, 0, 0, 0, 0, 0⟩⟩ :: R.map fR)]) (fun ((r, B) : (Int) × (B8)) => (0 ≤ r) ∧ (r ≤ 8) ∧ (∀ j, InR8 j → B.get j = decide (j < r))) (fun ((r, B) : (Int) × (B8)) => (8 - r).toNat) (0, (⟨false, false, false, false, false, false, false, false⟩ : B8)) ?_ ?_ ?_
  · exact ⟨by omega, by omega, fun j hj => none_of hj⟩
  · refine Wk.to [] [0] hz (by decide) ?_ ?_
    · simp (maxSteps := 1000000) (disch := omega) only [go_sem, w64, wU, updK, hw1, g1, g2, g3, g4, g5, g6]
    · simp (maxSteps := 1000000) (disch := omega) only [go_sem, w64, wU, updK, hw1, g1, g2, g3, g4, g5, g6]
  · rintro ⟨r, B⟩ hF _ ht _ hh
    simp only [updT, go_sem] at ht hh
    subst ht; subst hh
    obtain ⟨h1, h2, h3⟩ := hF
    refine AW.seq ?_
    refine AW.regR rfl (by simp (maxSteps := 1000000) only [go_sem, updK, hw1, g1, g2, g3, g4, g5, g6] <;> exact rfl) (by first | (simp (disch := omega) only [go_sem, w64, wU, updK, hw1, g1, g2, g3, g4, g5, g6] <;> exact rfl) | exact rfl) ?_
    refine AW.cond (by simp (maxSteps := 1000000) only [go_sem, updK, hw1, g1, g2, g3, g4, g5, g6] <;> exact rfl) (fun hc1 => ?_) (fun hc1 => ?_)
    · try simp only [decide_eq_true_eq, decide_eq_false_iff_not, Bool.or_eq_true, Bool.or_eq_false_iff, Bool.and_eq_true, Bool.and_eq_false_imp, Bool.not_eq_true', Bool.not_eq_false'] at hc1
      have hir : InR8 r := ⟨h1, hc1⟩
      refine AW.skip ?_
      show AW _ _ _ _ _
      refine AW.seq ?_
      refine AW.block ?_
      refine AW.reg rfl ?_
      refine ARN.run1 (by simp (maxSteps := 1000000) only [go_sem, updK, hw1, g1, g2, g3, g4, g5, g6, hir] <;> exact rfl) ?_
      refine ARN.vex rfl (by simp (maxSteps := 1000000) only [go_sem, updK, hw1, g1, g2, g3, g4, g5, g6, hir] <;> exact rfl) (by simp (maxSteps := 1000000) only [go_sem, updK, hw1, g1, g2, g3, g4, g5, g6, hir] <;> exact rfl) (by simp (maxSteps := 1000000) only [go_sem, updK, hw1, g1, g2, g3, g4, g5, g6, hir] <;> exact rfl) (by simp (maxSteps := 1000000) only [go_sem, updK, hw1, g1, g2, g3, g4, g5, g6, hir] <;> exact rfl) (by simp (maxSteps := 1000000) only [go_sem, updK, hw1, g1, g2, g3, g4, g5, g6, hir] <;> exact rfl) (by simp (maxSteps := 1000000) only [go_sem, updK, hw1, g1, g2, g3, g4, g5, g6, hir] <;> exact rfl) ⟨hir.1, hir.2⟩ (by decide) (by simp (maxSteps := 1000000) only [go_sem, updK, hw1, g1, g2, g3, g4, g5, g6, hir] <;> exact rfl) ?_
      refine ARN.run1 (by simp (maxSteps := 1000000) only [go_sem, updK, hw1, g1, g2, g3, g4, g5, g6, hir] <;> exact rfl) ?_
      refine ARN.fin1 (by first | (simp (disch := omega) only [go_sem, w64, wU, updK, hw1, g1, g2, g3, g4, g5, g6, hir] <;> exact rfl) | exact rfl) ?_
      show AW _ _ _ _ _
      refine AW.regR1 rfl (by simp (maxSteps := 1000000) only [go_sem, updK, hw1, g1, g2, g3, g4, g5, g6, hir] <;> exact rfl) (by first | (simp (disch := omega) only [go_sem, w64, wU, updK, hw1, g1, g2, g3, g4, g5, g6, hir] <;> exact rfl) | exact rfl) ?_
      refine ⟨((r + 1), B.put r true), ?_, ?_, ?_⟩
      · (try dsimp only); omega
      · exact ⟨by omega, by omega, top_next h3 hir⟩
      · refine Wk.to [] [0] hz (by decide) ?_ ?_
        · simp (maxSteps := 1000000) (disch := omega) only [go_sem, w64, wU, updK, hw1, g1, g2, g3, g4, g5, g6, hir]
        · simp (maxSteps := 1000000) (disch := omega) only [go_sem, w64, wU, updK, hw1, g1, g2, g3, g4, g5, g6, hir]
    · try simp only [decide_eq_true_eq, decide_eq_false_iff_not, Bool.or_eq_true, Bool.or_eq_false_iff, Bool.and_eq_true, Bool.and_eq_false_imp, Bool.not_eq_true', Bool.not_eq_false'] at hc1
      refine AW.exit ?_
      show AW _ _ _ _ _
      refine AW.seq ?_
      have hB : B = topB := top_of h3 (by omega)
      have hba : B.a = true := by rw [hB]; rfl
      have hbb : B.b = true := by rw [hB]; rfl
      have hbc : B.c = true := by rw [hB]; rfl
      have hbd : B.d = true := by rw [hB]; rfl
      have hbe : B.e = true := by rw [hB]; rfl
      have hbf : B.f = true := by rw [hB]; rfl
      have hbg : B.g = true := by rw [hB]; rfl
      have hbh : B.h = true := by rw [hB]; rfl
      have hbk := beg_rows hR
      refine AW.regR rfl (by simp (maxSteps := 1000000) only [go_sem, updK, hw1, g1, g2, g3, g4, g5, g6, hba, hbb, hbc, hbd, hbe, hbf, hbg, hbh, hbk] <;> exact rfl) (by first | (simp (disch := omega) only [go_sem, w64, wU, updK, hw1, g1, g2, g3, g4, g5, g6, hba, hbb, hbc, hbd, hbe, hbf, hbg, hbh, hbk] <;> exact rfl) | exact rfl) ?_
      refine AW.block ?_
      refine AW.loopV (α := (List Fa) × (Bool)) (fun ((X, ag) : (List Fa) × (Bool)) => [(3, .vs 0 0 (code.length + 1)), (5, .pv (.bool ag))]) (fun ((X, ag) : (List Fa) × (Bool)) => [.vec 17 (X.map fR)]) (fun ((X, ag) : (List Fa) × (Bool)) => (LowK code X) ∧ (WX X) ∧ (ag = false → SolK code X)) (fun ((X, ag) : (List Fa) × (Bool)) => 2 * rnkS X + (if ag = true then 1 else 0)) (begK code, true) ?_ ?_ ?_
      · exact ⟨low_beg code, wx_beg code, fun h => by cases h⟩
      · refine Wk.to [] [0] hz (by decide) ?_ ?_
        · simp (maxSteps := 1000000) (disch := omega) only [go_sem, w64, wU, updK, hw1, g1, g2, g3, g4, g5, g6, hba, hbb, hbc, hbd, hbe, hbf, hbg, hbh, hbk]
        · simp (maxSteps := 1000000) (disch := omega) only [go_sem, w64, wU, updK, hw1, g1, g2, g3, g4, g5, g6, hba, hbb, hbc, hbd, hbe, hbf, hbg, hbh, hbk]
      · rintro ⟨X, ag⟩ hF _ ht _ hh
        simp only [updT, go_sem] at ht hh
        subst ht; subst hh
        obtain ⟨l1, l2, l3⟩ := hF
        refine AW.seq ?_
        refine AW.regR rfl (by simp (maxSteps := 1000000) only [go_sem, updK, hw1, g1, g2, g3, g4, g5, g6, hba, hbb, hbc, hbd, hbe, hbf, hbg, hbh, hbk] <;> exact rfl) (by first | (simp (disch := omega) only [go_sem, w64, wU, updK, hw1, g1, g2, g3, g4, g5, g6, hba, hbb, hbc, hbd, hbe, hbf, hbg, hbh, hbk] <;> exact rfl) | exact rfl) ?_
        refine AW.cond (by simp (maxSteps := 1000000) only [go_sem, updK, hw1, g1, g2, g3, g4, g5, g6, hba, hbb, hbc, hbd, hbe, hbf, hbg, hbh, hbk] <;> exact rfl) (fun hc2 => ?_) (fun hc2 => ?_)
        · try simp only [decide_eq_true_eq, decide_eq_false_iff_not, Bool.or_eq_true, Bool.or_eq_false_iff, Bool.and_eq_true, Bool.and_eq_false_imp, Bool.not_eq_true', Bool.not_eq_false'] at hc2
          refine AW.skip ?_
          show AW _ _ _ _ _
          refine AW.block ?_
          refine AW.regR rfl (by simp (maxSteps := 1000000) only [go_sem, updK, hw1, g1, g2, g3, g4, g5, g6, hba, hbb, hbc, hbd, hbe, hbf, hbg, hbh, hbk] <;> exact rfl) (by first | (simp (disch := omega) only [go_sem, w64, wU, updK, hw1, g1, g2, g3, g4, g5, g6, hba, hbb, hbc, hbd, hbe, hbf, hbg, hbh, hbk] <;> exact rfl) | exact rfl) ?_
          refine AW.regR rfl (by simp (maxSteps := 1000000) only [go_sem, updK, hw1, g1, g2, g3, g4, g5, g6, hba, hbb, hbc, hbd, hbe, hbf, hbg, hbh, hbk] <;> exact rfl) (by first | (simp (disch := omega) only [go_sem, w64, wU, updK, hw1, g1, g2, g3, g4, g5, g6, hba, hbb, hbc, hbd, hbe, hbf, hbg, hbh, hbk] <;> exact rfl) | exact rfl) ?_
          refine AW.block ?_
          refine AW.loopV (α := (List Fa) × (Bool) × (Int)) (fun ((X2, ag2, pc) : (List Fa) × (Bool) × (Int)) => [(6, .pv (.int .i64 pc)), (5, .pv (.bool ag2))]) (fun ((X2, ag2, pc) : (List Fa) × (Bool) × (Int)) => [.vec 17 (X2.map fR)]) (fun ((X2, ag2, pc) : (List Fa) × (Bool) × (Int)) => (LowK code X2) ∧ (WX X2) ∧ (0 ≤ pc) ∧ (pc ≤ (code.length : Int)) ∧ (ag2 = false → X2 = X ∧ ∀ j : Nat, (j : Int) < pc → ClK code X j) ∧ (ag2 = true → rnkS X2 < rnkS X)) (fun ((X2, ag2, pc) : (List Fa) × (Bool) × (Int)) => ((code.length : Int) - pc).toNat) (X, false, 0) ?_ ?_ ?_
          · exact ⟨l1, l2, by omega, by omega, fun _ => ⟨rfl, fun j hj => by omega⟩, fun h => by cases h⟩
          · refine Wk.to [] [0] hz (by decide) ?_ ?_
            · simp (maxSteps := 1000000) (disch := omega) only [go_sem, w64, wU, updK, hw1, g1, g2, g3, g4, g5, g6, hba, hbb, hbc, hbd, hbe, hbf, hbg, hbh, hbk]
            · simp (maxSteps := 1000000) (disch := omega) only [go_sem, w64, wU, updK, hw1, g1, g2, g3, g4, g5, g6, hba, hbb, hbc, hbd, hbe, hbf, hbg, hbh, hbk]
          · rintro ⟨X2, ag2, pc⟩ hF _ ht _ hh
            simp only [updT, go_sem] at ht hh
            subst ht; subst hh
            obtain ⟨k1, kw, k2, k3, k4, k5⟩ := hF
            refine AW.seq ?_
            refine AW.regR rfl (by simp (maxSteps := 1000000) only [go_sem, updK, hw1, g1, g2, g3, g4, g5, g6, hba, hbb, hbc, hbd, hbe, hbf, hbg, hbh, hbk] <;> exact rfl) (by first | (simp (disch := omega) only [go_sem, w64, wU, updK, hw1, g1, g2, g3, g4, g5, g6, hba, hbb, hbc, hbd, hbe, hbf, hbg, hbh, hbk] <;> exact rfl) | exact rfl) ?_
            refine AW.cond (by simp (maxSteps := 1000000) only [go_sem, updK, hw1, g1, g2, g3, g4, g5, g6, hba, hbb, hbc, hbd, hbe, hbf, hbg, hbh, hbk] <;> exact rfl) (fun hc3 => ?_) (fun hc3 => ?_)
            · try simp only [decide_eq_true_eq, decide_eq_false_iff_not, Bool.or_eq_true, Bool.or_eq_false_iff, Bool.and_eq_true, Bool.and_eq_false_imp, Bool.not_eq_true', Bool.not_eq_false'] at hc3
              have g7 : 0 ≤ pc := k2
              have g8 : pc < (code.length : Int) := hc3
              have g9 : (pc < ((code.length + 1 : Nat) : Int)) = True := eq_true (by omega)
              have hri : (code.map inR)[pc.toNat]? = some [.int .i64 (code.getD pc.toNat i0).1, .int .i64 (code.getD pc.toNat i0).2.1, .int .i64 (code.getD pc.toNat i0).2.2.1, .int .i64 (code.getD pc.toNat i0).2.2.2.1, .int .u64 (code.getD pc.toNat i0).2.2.2.2] := in_at ⟨k2, hc3⟩
              refine AW.skip ?_
              show AW _ _ _ _ _
              refine AW.seq ?_
              refine AW.block ?_
              refine AW.regS rfl ?_
              refine ARN.run1 (by simp (maxSteps := 1000000) only [go_sem, updK, hw1, g1, g2, g3, g4, g5, g6, hba, hbb, hbc, hbd, hbe, hbf, hbg, hbh, hbk, g7, g8, g9, hri] <;> exact rfl) ?_
              refine ARN.pcall (fun hp => c16 code pc hc hL) rfl (by simp (maxSteps := 1000000) only [go_sem, updK, hw1, g1, g2, g3, g4, g5, g6, hba, hbb, hbc, hbd, hbe, hbf, hbg, hbh, hbk, g7, g8, g9, hri] <;> exact rfl) (by simp only [go_sem]) (by simp (maxSteps := 1000000) only [go_sem, updK, hw1, g1, g2, g3, g4, g5, g6, hba, hbb, hbc, hbd, hbe, hbf, hbg, hbh, hbk, g7, g8, g9, hri] <;> exact rfl) ?_
              refine ARN.run1 (by simp (maxSteps := 1000000) only [go_sem, updK, hw1, g1, g2, g3, g4, g5, g6, hba, hbb, hbc, hbd, hbe, hbf, hbg, hbh, hbk, g7, g8, g9, hri] <;> exact rfl) ?_
              refine ARN.fin (by first | (simp (disch := omega) only [go_sem, w64, wU, updK, hw1, g1, g2, g3, g4, g5, g6, hba, hbb, hbc, hbd, hbe, hbf, hbg, hbh, hbk, g7, g8, g9, hri] <;> exact rfl) | exact rfl) ?_
              refine AW.regR rfl (by simp (maxSteps := 1000000) only [go_sem, updK, hw1, g1, g2, g3, g4, g5, g6, hba, hbb, hbc, hbd, hbe, hbf, hbg, hbh, hbk, g7, g8, g9, hri] <;> exact rfl) (by first | (simp (disch := omega) only [go_sem, w64, wU, updK, hw1, g1, g2, g3, g4, g5, g6, hba, hbb, hbc, hbd, hbe, hbf, hbg, hbh, hbk, g7, g8, g9, hri] <;> exact rfl) | exact rfl) ?_
              refine AW.block ?_
              refine AW.loopV (α := (List Fa) × (Bool) × (Int)) (fun ((X3, ag3, k) : (List Fa) × (Bool) × (Int)) => [(8, .pv (.int .i64 k)), (5, .pv (.bool ag3))]) (fun ((X3, ag3, k) : (List Fa) × (Bool) × (Int)) => [.vec 17 (X3.map fR)]) (fun ((X3, ag3, k) : (List Fa) × (Bool) × (Int)) => (LowK code X3) ∧ (WX X3) ∧ (0 ≤ k) ∧ (k ≤ ((nextS code pc).length : Int)) ∧ (ag3 = false → X3 = X ∧ (∀ j : Nat, (j : Int) < pc → ClK code X j) ∧ Prt code X pc k) ∧ (ag3 = true → rnkS X3 < rnkS X)) (fun ((X3, ag3, k) : (List Fa) × (Bool) × (Int)) => (((nextS code pc).length : Int) - k).toNat) (X2, ag2, 0) ?_ ?_ ?_
              · exact ⟨k1, kw, by omega, by omega, fun h => ⟨(k4 h).1, (k4 h).2, fun i hi => by omega⟩, k5⟩
              · refine Wk.to [] [0] hz (by decide) ?_ ?_
                · simp (maxSteps := 1000000) (disch := omega) only [go_sem, w64, wU, updK, hw1, g1, g2, g3, g4, g5, g6, hba, hbb, hbc, hbd, hbe, hbf, hbg, hbh, hbk, g7, g8, g9, hri]
                · simp (maxSteps := 1000000) (disch := omega) only [go_sem, w64, wU, updK, hw1, g1, g2, g3, g4, g5, g6, hba, hbb, hbc, hbd, hbe, hbf, hbg, hbh, hbk, g7, g8, g9, hri]
              · rintro ⟨X3, ag3, k⟩ hF _ ht _ hh
                simp only [updT, go_sem] at ht hh
                subst ht; subst hh
                obtain ⟨j1, jw, j2, j3, j4, j5⟩ := hF
                refine AW.seq ?_
                have hlen3 : X3.length = code.length + 1 := j1.len
                have hra : (X3.map fR)[pc.toNat]? = some (fR (X3.getD pc.toNat botF)) := f_at ⟨k2, by omega⟩
                have hkw : IntKind.i64.wrap (k + 1) = k + 1 := by have := next_len code pc; exact w64 (by omega) (by omega)
                refine AW.regR rfl (by simp (maxSteps := 1000000) only [go_sem, updK, hw1, g1, g2, g3, g4, g5, g6, hba, hbb, hbc, hbd, hbe, hbf, hbg, hbh, hbk, g7, g8, g9, hri, hlen3, hra, hkw] <;> exact rfl) (by first | (simp (disch := omega) only [go_sem, w64, wU, updK, hw1, g1, g2, g3, g4, g5, g6, hba, hbb, hbc, hbd, hbe, hbf, hbg, hbh, hbk, g7, g8, g9, hri, hlen3, hra, hkw] <;> exact rfl) | exact rfl) ?_
                refine AW.cond (by simp (maxSteps := 1000000) only [go_sem, updK, hw1, g1, g2, g3, g4, g5, g6, hba, hbb, hbc, hbd, hbe, hbf, hbg, hbh, hbk, g7, g8, g9, hri, hlen3, hra, hkw] <;> exact rfl) (fun hc4 => ?_) (fun hc4 => ?_)
                · try simp only [decide_eq_true_eq, decide_eq_false_iff_not, Bool.or_eq_true, Bool.or_eq_false_iff, Bool.and_eq_true, Bool.and_eq_false_imp, Bool.not_eq_true', Bool.not_eq_false'] at hc4
                  have q0 : 0 ≤ k := j2
                  have q1 : k < ((nextS code pc).length : Int) := hc4.1
                  have hrk : ((nextS code pc).map nR)[k.toNat]? = some [.int .i64 ((nextS code pc).getD k.toNat 0)] := n_at ⟨j2, hc4.1⟩
                  refine AW.skip ?_
                  show AW _ _ _ _ _
                  refine AW.seq ?_
                  refine AW.block ?_
                  have hN : code.length < 65536 := by omega
                  have hmem : ((nextS code pc).getD k.toNat 0) ∈ nextS code pc := getD_mem (by omega)
                  have hto := next_in hc hN hmem
                  have t0 : 0 ≤ ((nextS code pc).getD k.toNat 0) := hto.1
                  have t1 : (((nextS code pc).getD k.toNat 0) < ((code.length + 1 : Nat) : Int)) = True := eq_true (by have := hto.2; omega)
                  have hrt : (X3.map fR)[((nextS code pc).getD k.toNat 0).toNat]? = some (fR (X3.getD ((nextS code pc).getD k.toNat 0).toNat botF)) := f_at ⟨hto.1, by have := hto.2; omega⟩
                  refine AW.regDS follows (by kernel_rfl) ?_
                  refine ARE.run1 (by simp (maxSteps := 1000000) only [go_sem, updK, hw1, g1, g2, g3, g4, g5, g6, hba, hbb, hbc, hbd, hbe, hbf, hbg, hbh, hbk, g7, g8, g9, hri, hlen3, hra, hkw, q0, q1, hrk, t0, t1, hrt] <;> exact rfl) ?_
                  refine ARE.pcall (fun hp => c70 (code.getD pc.toNat i0).1 (code.getD pc.toNat i0).2.1 (code.getD pc.toNat i0).2.2.1 (code.getD pc.toNat i0).2.2.2.1 (code.getD pc.toNat i0).2.2.2.2 (X3.getD pc.toNat botF) (code_w hc ⟨k2, hc3⟩) (jw _)) rfl (by simp (maxSteps := 1000000) only [go_sem, updK, hw1, g1, g2, g3, g4, g5, g6, hba, hbb, hbc, hbd, hbe, hbf, hbg, hbh, hbk, g7, g8, g9, hri, hlen3, hra, hkw, q0, q1, hrk, t0, t1, hrt] <;> exact rfl) (by simp only [go_sem]) (by simp (maxSteps := 1000000) only [go_sem, updK, hw1, g1, g2, g3, g4, g5, g6, hba, hbb, hbc, hbd, hbe, hbf, hbg, hbh, hbk, g7, g8, g9, hri, hlen3, hra, hkw, q0, q1, hrk, t0, t1, hrt] <;> exact rfl) ?_
                  refine ARE.pcall (fun hp => c69 (X3.getD ((nextS code pc).getD k.toNat 0).toNat botF) (stF code pc (X3.getD pc.toNat botF))) rfl (by simp (maxSteps := 1000000) only [go_sem, updK, hw1, g1, g2, g3, g4, g5, g6, hba, hbb, hbc, hbd, hbe, hbf, hbg, hbh, hbk, g7, g8, g9, hri, hlen3, hra, hkw, q0, q1, hrk, t0, t1, hrt] <;> exact rfl) (by simp only [go_sem]) (by simp (maxSteps := 1000000) only [go_sem, updK, hw1, g1, g2, g3, g4, g5, g6, hba, hbb, hbc, hbd, hbe, hbf, hbg, hbh, hbk, g7, g8, g9, hri, hlen3, hra, hkw, q0, q1, hrk, t0, t1, hrt] <;> exact rfl) ?_
                  refine ARE.run1 (by simp (maxSteps := 1000000) only [go_sem, updK, hw1, g1, g2, g3, g4, g5, g6, hba, hbb, hbc, hbd, hbe, hbf, hbg, hbh, hbk, g7, g8, g9, hri, hlen3, hra, hkw, q0, q1, hrk, t0, t1, hrt] <;> exact rfl) ?_
                  refine ARE.fin [0, 0, 0, 6, 14, 31, 63, 0, 0, 384, 896, 0, 0, 6144, 14336, 32640, 65535, 0, 262143] _ (by kernel_rfl) (by simp (maxSteps := 1000000) only [go_sem, updK, hw1, g1, g2, g3, g4, g5, g6, hba, hbb, hbc, hbd, hbe, hbf, hbg, hbh, hbk, g7, g8, g9, hri, hlen3, hra, hkw, q0, q1, hrk, t0, t1, hrt] <;> exact rfl) (by kernel_rfl) (by first | (simp (disch := omega) only [go_sem, w64, wU, updK, hw1, g1, g2, g3, g4, g5, g6, hba, hbb, hbc, hbd, hbe, hbf, hbg, hbh, hbk, g7, g8, g9, hri, hlen3, hra, hkw, q0, q1, hrk, t0, t1, hrt] <;> exact rfl) | exact rfl) ?_
                  refine AW.regDS follows (by kernel_rfl) ?_
                  refine ARE.run1 (by simp (maxSteps := 1000000) only [go_sem, updK, hw1, g1, g2, g3, g4, g5, g6, hba, hbb, hbc, hbd, hbe, hbf, hbg, hbh, hbk, g7, g8, g9, hri, hlen3, hra, hkw, q0, q1, hrk, t0, t1, hrt] <;> exact rfl) ?_
                  refine ARE.fin [0, 0, 0, 0, 12, 28, 62, 126, 255] _ (by kernel_rfl) (by simp (maxSteps := 1000000) only [go_sem, updK, hw1, g1, g2, g3, g4, g5, g6, hba, hbb, hbc, hbd, hbe, hbf, hbg, hbh, hbk, g7, g8, g9, hri, hlen3, hra, hkw, q0, q1, hrk, t0, t1, hrt] <;> exact rfl) (by kernel_rfl) (by first | (simp (disch := omega) only [go_sem, w64, wU, updK, hw1, g1, g2, g3, g4, g5, g6, hba, hbb, hbc, hbd, hbe, hbf, hbg, hbh, hbk, g7, g8, g9, hri, hlen3, hra, hkw, q0, q1, hrk, t0, t1, hrt] <;> exact rfl) | exact rfl) ?_
                  refine AW.cond (by simp (maxSteps := 1000000) only [go_sem, updK, hw1, g1, g2, g3, g4, g5, g6, hba, hbb, hbc, hbd, hbe, hbf, hbg, hbh, hbk, g7, g8, g9, hri, hlen3, hra, hkw, q0, q1, hrk, t0, t1, hrt] <;> exact rfl) (fun hc5 => ?_) (fun hc5 => ?_)
                  · skip
                    refine AW.regDS follows (by kernel_rfl) ?_
                    refine ARE.run1 (by simp (maxSteps := 1000000) only [go_sem, updK, hw1, g1, g2, g3, g4, g5, g6, hba, hbb, hbc, hbd, hbe, hbf, hbg, hbh, hbk, g7, g8, g9, hri, hlen3, hra, hkw, q0, q1, hrk, t0, t1, hrt] <;> exact rfl) ?_
                    refine ARE.fin [0, 0, 0, 6, 14, 0, 63, 127] _ (by kernel_rfl) (by simp (maxSteps := 1000000) only [go_sem, updK, hw1, g1, g2, g3, g4, g5, g6, hba, hbb, hbc, hbd, hbe, hbf, hbg, hbh, hbk, g7, g8, g9, hri, hlen3, hra, hkw, q0, q1, hrk, t0, t1, hrt] <;> exact rfl) (by kernel_rfl) (by first | (simp (disch := omega) only [go_sem, w64, wU, updK, hw1, g1, g2, g3, g4, g5, g6, hba, hbb, hbc, hbd, hbe, hbf, hbg, hbh, hbk, g7, g8, g9, hri, hlen3, hra, hkw, q0, q1, hrk, t0, t1, hrt] <;> exact rfl) | exact rfl) ?_
                    refine AW.regR1 rfl (by simp (maxSteps := 1000000) only [go_sem, updK, hw1, g1, g2, g3, g4, g5, g6, hba, hbb, hbc, hbd, hbe, hbf, hbg, hbh, hbk, g7, g8, g9, hri, hlen3, hra, hkw, q0, q1, hrk, t0, t1, hrt] <;> exact rfl) (by first | (simp (disch := omega) only [go_sem, w64, wU, updK, hw1, g1, g2, g3, g4, g5, g6, hba, hbb, hbc, hbd, hbe, hbf, hbg, hbh, hbk, g7, g8, g9, hri, hlen3, hra, hkw, q0, q1, hrk, t0, t1, hrt] <;> exact rfl) | exact rfl) ?_
                    show AW _ _ _ _ _
                    refine AW.regR1 rfl (by simp (maxSteps := 1000000) only [go_sem, updK, hw1, g1, g2, g3, g4, g5, g6, hba, hbb, hbc, hbd, hbe, hbf, hbg, hbh, hbk, g7, g8, g9, hri, hlen3, hra, hkw, q0, q1, hrk, t0, t1, hrt] <;> exact rfl) (by first | (simp (disch := omega) only [go_sem, w64, wU, updK, hw1, g1, g2, g3, g4, g5, g6, hba, hbb, hbc, hbd, hbe, hbf, hbg, hbh, hbk, g7, g8, g9, hri, hlen3, hra, hkw, q0, q1, hrk, t0, t1, hrt] <;> exact rfl) | exact rfl) ?_
                    refine ⟨(updK code X3 pc ((nextS code pc).getD k.toNat 0), true, (k + 1)), ?_, ?_, ?_⟩
                    · (try dsimp only); omega
                    · exact ⟨low_upd j1 ⟨k2, hc3⟩ hc hN hmem, wx_upd hc ⟨k2, hc3⟩ j1.len hto jw, by omega, by omega, fun h => (by cases h), fun _ => Nat.lt_of_lt_of_le ((rnk_upd j1 hto).2 (fun e => by rw [e] at hc5; simp at hc5)) (rnk_le (fun h => (j4 h).1) j5)⟩
                    · refine Wk.to [] [0] hz (by decide) ?_ ?_
                      · simp (maxSteps := 1000000) (disch := omega) only [go_sem, w64, wU, updK, hw1, g1, g2, g3, g4, g5, g6, hba, hbb, hbc, hbd, hbe, hbf, hbg, hbh, hbk, g7, g8, g9, hri, hlen3, hra, hkw, q0, q1, hrk, t0, t1, hrt]
                      · simp (maxSteps := 1000000) (disch := omega) only [go_sem, w64, wU, updK, hw1, g1, g2, g3, g4, g5, g6, hba, hbb, hbc, hbd, hbe, hbf, hbg, hbh, hbk, g7, g8, g9, hri, hlen3, hra, hkw, q0, q1, hrk, t0, t1, hrt]
                  · skip
                    refine AW.skip ?_
                    show AW _ _ _ _ _
                    refine AW.regR1 rfl (by simp (maxSteps := 1000000) only [go_sem, updK, hw1, g1, g2, g3, g4, g5, g6, hba, hbb, hbc, hbd, hbe, hbf, hbg, hbh, hbk, g7, g8, g9, hri, hlen3, hra, hkw, q0, q1, hrk, t0, t1, hrt] <;> exact rfl) (by first | (simp (disch := omega) only [go_sem, w64, wU, updK, hw1, g1, g2, g3, g4, g5, g6, hba, hbb, hbc, hbd, hbe, hbf, hbg, hbh, hbk, g7, g8, g9, hri, hlen3, hra, hkw, q0, q1, hrk, t0, t1, hrt] <;> exact rfl) | exact rfl) ?_
                    refine ⟨(X3, ag3, (k + 1)), ?_, ?_, ?_⟩
                    · (try dsimp only); omega
                    · have he : joinF (X3.getD ((nextS code pc).getD k.toNat 0).toNat botF) (stF code pc (X3.getD pc.toNat botF)) = X3.getD ((nextS code pc).getD k.toNat 0).toNat botF := eqF_iff.1 (by simpa [eqF] using hc5)
                      exact ⟨j1, jw, by omega, by omega, fun h => ⟨(j4 h).1, (j4 h).2.1, by have e3 := (j4 h).2.2; rw [← (j4 h).1] at e3 ⊢; exact prt_next e3 j2 he⟩, j5⟩
                    · refine Wk.to [] [0] hz (by decide) ?_ ?_
                      · simp (maxSteps := 1000000) (disch := omega) only [go_sem, w64, wU, updK, hw1, g1, g2, g3, g4, g5, g6, hba, hbb, hbc, hbd, hbe, hbf, hbg, hbh, hbk, g7, g8, g9, hri, hlen3, hra, hkw, q0, q1, hrk, t0, t1, hrt]
                      · simp (maxSteps := 1000000) (disch := omega) only [go_sem, w64, wU, updK, hw1, g1, g2, g3, g4, g5, g6, hba, hbb, hbc, hbd, hbe, hbf, hbg, hbh, hbk, g7, g8, g9, hri, hlen3, hra, hkw, q0, q1, hrk, t0, t1, hrt]
                · try simp only [decide_eq_true_eq, decide_eq_false_iff_not, Bool.or_eq_true, Bool.or_eq_false_iff, Bool.and_eq_true, Bool.and_eq_false_imp, Bool.not_eq_true', Bool.not_eq_false'] at hc4
                  refine AW.exit ?_
                  show AW _ _ _ _ _
                  refine AW.regR1 rfl (by simp (maxSteps := 1000000) only [go_sem, updK, hw1, g1, g2, g3, g4, g5, g6, hba, hbb, hbc, hbd, hbe, hbf, hbg, hbh, hbk, g7, g8, g9, hri, hlen3, hra, hkw] <;> exact rfl) (by first | (simp (disch := omega) only [go_sem, w64, wU, updK, hw1, g1, g2, g3, g4, g5, g6, hba, hbb, hbc, hbd, hbe, hbf, hbg, hbh, hbk, g7, g8, g9, hri, hlen3, hra, hkw] <;> exact rfl) | exact rfl) ?_
                  refine ⟨(X3, ag3, (pc + 1)), ?_, ?_, ?_⟩
                  · (try dsimp only); omega
                  · exact ⟨j1, jw, by omega, by omega, fun h => ⟨(j4 h).1, done_pc (j4 h).2.1 k2 (by have e3 := (j4 h).2.2; rw [← (j4 h).1] at e3 ⊢; exact cl_exit e3 (fun q => by simpa using hc4 q))⟩, j5⟩
                  · refine Wk.to [] [0] hz (by decide) ?_ ?_
                    · simp (maxSteps := 1000000) (disch := omega) only [go_sem, w64, wU, updK, hw1, g1, g2, g3, g4, g5, g6, hba, hbb, hbc, hbd, hbe, hbf, hbg, hbh, hbk, g7, g8, g9, hri, hlen3, hra, hkw]
                    · simp (maxSteps := 1000000) (disch := omega) only [go_sem, w64, wU, updK, hw1, g1, g2, g3, g4, g5, g6, hba, hbb, hbc, hbd, hbe, hbf, hbg, hbh, hbk, g7, g8, g9, hri, hlen3, hra, hkw]
            · try simp only [decide_eq_true_eq, decide_eq_false_iff_not, Bool.or_eq_true, Bool.or_eq_false_iff, Bool.and_eq_true, Bool.and_eq_false_imp, Bool.not_eq_true', Bool.not_eq_false'] at hc3
              refine AW.exit ?_
              refine ⟨(X2, ag2), ?_, ?_, ?_⟩
              · exact krnk_meas (fun h => (k4 h).1) k5 hc2
              · exact ⟨k1, kw, fun h => sol_of (pc := pc) k1 (by rw [(k4 h).1]; exact (k4 h).2) (by omega)⟩
              · refine Wk.to [] [0] hz (by decide) ?_ ?_
                · simp (maxSteps := 1000000) (disch := omega) only [go_sem, w64, wU, updK, hw1, g1, g2, g3, g4, g5, g6, hba, hbb, hbc, hbd, hbe, hbf, hbg, hbh, hbk]
                · simp (maxSteps := 1000000) (disch := omega) only [go_sem, w64, wU, updK, hw1, g1, g2, g3, g4, g5, g6, hba, hbb, hbc, hbd, hbe, hbf, hbg, hbh, hbk]
        · try simp only [decide_eq_true_eq, decide_eq_false_iff_not, Bool.or_eq_true, Bool.or_eq_false_iff, Bool.and_eq_true, Bool.and_eq_false_imp, Bool.not_eq_true', Bool.not_eq_false'] at hc2
          refine AW.exit ?_
          show AW _ _ _ _ _
          refine AW.regR rfl (by simp (maxSteps := 1000000) only [go_sem, updK, hw1, g1, g2, g3, g4, g5, g6, hba, hbb, hbc, hbd, hbe, hbf, hbg, hbh, hbk] <;> exact rfl) (by first | (simp (disch := omega) only [go_sem, w64, wU, updK, hw1, g1, g2, g3, g4, g5, g6, hba, hbb, hbc, hbd, hbe, hbf, hbg, hbh, hbk] <;> exact rfl) | exact rfl) ?_
          refine retK.fin rfl (by simp (maxSteps := 1000000) only [go_sem, updK, hw1, g1, g2, g3, g4, g5, g6, hba, hbb, hbc, hbd, hbe, hbf, hbg, hbh, hbk] <;> exact rfl) (by simp (maxSteps := 1000000) only [go_sem, updK, hw1, g1, g2, g3, g4, g5, g6, hba, hbb, hbc, hbd, hbe, hbf, hbg, hbh, hbk] <;> exact rfl) (.of ?_)
          rw [known_of l1 (l3 (by simpa using hc2))]; exact congrArg (PV.lst false 17) (List.take_of_length_le (by simp [l1.len]))
end Go.Ab.Try
