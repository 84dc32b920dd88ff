/- Where a code may go: the document's answers. -/
import Derived.Test.YtlgfbiepbneihaaRcF
import Derived.Test.YtlgfbiepbneihaaRD
namespace Go.Ab.Try
open Go.Proofs Go.Ab
set_option linter.unusedVariables false
set_option linter.unusedSimpArgs false
set_option linter.unnecessarySimpa false
set_option maxRecDepth 100000
attribute [go_sem] boR prR
theorem c19 (code : List Ins) (hc : OkC code) (hL : code.length ≤ 100) : PC Try.prog 19 [.lst false 5 (code.map inR)] (.lst false 1 ((reachL code zeS).map boR)) := by
  refine PC.start 13 Try.call19 Try.func19 rfl Try.ntmps19 Try.results19 (by simp only [go_sem]; exact rfl) fun z hz => ?_
  have hw1 : IntKind.i64.wrap ((code.length : Int) + 1) = (code.length : Int) + 1 := w64 (by omega) (by omega)
  have g1 : (0 ≤ (code.length : Int) + 1) = True := eq_true (by omega)
  have g2 : ((code.length : Int) + 1 ≤ 281474976710656) = True := eq_true (by omega)
  have g3 : ((code.length : Int) + 1 ≤ 9223372036854775807) = True := eq_true (by omega)
  have g4 : ((code.length : Int) + 1).toNat = code.length + 1 := by omega
  have g6 : (0 < ((code.length + 1 : Nat) : Int)) = True := eq_true (by omega)
  refine AW.regR rfl (by simp (maxSteps := 1000000) only [go_sem, Int.one_mul, hw1, g1, g2, g3, g4, g6] <;> exact rfl) (by first | (simp (disch := omega) only [go_sem, w64, wU, Int.one_mul, hw1, g1, g2, g3, g4, g6] <;> exact rfl) | exact rfl) ?_
  refine AW.regR rfl (by simp (maxSteps := 1000000) only [go_sem, Int.one_mul, hw1, g1, g2, g3, g4, g6] <;> exact rfl) (by first | (simp (disch := omega) only [go_sem, w64, wU, Int.one_mul, hw1, g1, g2, g3, g4, g6] <;> exact rfl) | exact rfl) ?_
  refine AW.regR rfl (by simp (maxSteps := 1000000) only [go_sem, Int.one_mul, hw1, g1, g2, g3, g4, g6] <;> exact rfl) (by first | (simp (disch := omega) only [go_sem, w64, wU, Int.one_mul, hw1, g1, g2, g3, g4, g6] <;> exact rfl) | exact rfl) ?_
  refine AW.regL ?_
  refine AWL.runGP 0 rfl rfl (by simp (maxSteps := 1000000) only [go_sem, Int.one_mul, hw1, g1, g2, g3, g4, g6] <;> exact rfl) ?_
  refine AWL.toU [(3, .pv (.lst false 1 ((zrow code.length).map boR)))] [.gone] [0] [0] hz (by decide) ?_ ?_ ?_
  · simp (maxSteps := 1000000) only [go_sem]
  · simp (maxSteps := 1000000) only [go_sem]; exact ⟨_, rfl, Sub.of (congrArg (PV.lst false 1) (zrow_take _))⟩
  intro t' ht
  simp only [updT, go_sem] at ht
  subst ht
  refine AWL.runG (by simp (maxSteps := 1000000) only [go_sem, Int.one_mul, hw1, g1, g2, g3, g4, g6] <;> exact rfl) ?_
  refine AWL.pcall2 (c54 code (zrow code.length) hc hL (zrow_len _)) (by simp (maxSteps := 1000000) only [go_sem, Int.one_mul, hw1, g1, g2, g3, g4, g6] <;> exact rfl) rfl (by simp (maxSteps := 1000000) only [go_sem, Int.one_mul, hw1, g1, g2, g3, g4, g6] <;> exact rfl) (by simp (maxSteps := 1000000) only [go_sem, Int.one_mul, hw1, g1, g2, g3, g4, g6] <;> exact rfl) ?_
  refine AWL.runG (by simp (maxSteps := 1000000) only [go_sem, Int.one_mul, hw1, g1, g2, g3, g4, g6] <;> exact rfl) ?_
  refine AWL.fin (by first | (simp (disch := omega) only [go_sem, w64, wU, Int.one_mul, hw1, g1, g2, g3, g4, g6] <;> exact rfl) | exact rfl) ?_
  refine retK.fin rfl (by simp (maxSteps := 1000000) only [go_sem, Int.one_mul, hw1, g1, g2, g3, g4, g6] <;> exact rfl) (by simp (maxSteps := 1000000) only [go_sem, Int.one_mul, hw1, g1, g2, g3, g4, g6] <;> exact rfl) (.of ?_)
  rw [reachL_congr (zrow_S _)]
theorem c24 (code : List Ins) (hc : OkC code) (hL : code.length ≤ 100) : PC Try.prog 24 [.lst false 5 (code.map inR)] (.bool (loopB code)) := by
  refine PC.start 46 Try.call24 Try.func24 rfl Try.ntmps24 Try.results24 (by simp only [go_sem]; exact rfl) fun z hz => ?_
  have hN : code.length < 65536 := by omega
  refine AW.regR rfl (by simp (maxSteps := 1000000) only [go_sem, Int.one_mul, hN] <;> exact rfl) (by first | (simp (disch := omega) only [go_sem, w64, wU, Int.one_mul, hN] <;> exact rfl) | exact rfl) ?_
  refine AW.regS rfl ?_
  refine ARN.run1 (by simp (maxSteps := 1000000) only [go_sem, Int.one_mul, hN] <;> exact rfl) ?_
  refine ARN.pcall (fun hp => c19 code hc hL) rfl (by simp (maxSteps := 1000000) only [go_sem, Int.one_mul, hN] <;> exact rfl) (by simp only [go_sem]) (by simp (maxSteps := 1000000) only [go_sem, Int.one_mul, hN] <;> exact rfl) ?_
  refine ARN.run1 (by simp (maxSteps := 1000000) only [go_sem, Int.one_mul, hN] <;> exact rfl) ?_
  refine ARN.fin (by first | (simp (disch := omega) only [go_sem, w64, wU, Int.one_mul, hN] <;> exact rfl) | exact rfl) ?_
  refine AW.seq ?_
  refine AW.regR rfl (by simp (maxSteps := 1000000) only [go_sem, Int.one_mul, hN] <;> exact rfl) (by first | (simp (disch := omega) only [go_sem, w64, wU, Int.one_mul, hN] <;> exact rfl) | exact rfl) ?_
  refine AW.block ?_
  refine AW.loopV (α := (Int)) (fun (pc : (Int)) => [(4, .pv (.int .i64 pc))]) (fun (pc : (Int)) => []) (fun (pc : (Int)) => (0 ≤ pc) ∧ (pc ≤ (code.length : Int)) ∧ (∀ a : Int, 0 ≤ a → a < pc → Rch code zeS a → ¬ Rch code (neS code a) a)) (fun (pc : (Int)) => ((code.length : Int) - pc).toNat) 0 ?_ ?_ ?_
  · exact ⟨by omega, by omega, fun a h1 h2 => by omega⟩
  · refine Wk.to [] [] hz (by decide) ?_ ?_
    · simp (maxSteps := 1000000) (disch := omega) only [go_sem, w64, wU, Int.one_mul, hN]
    · simp (maxSteps := 1000000) (disch := omega) only [go_sem, w64, wU, Int.one_mul, hN]
  · rintro pc hF _ ht _ hh
    simp only [updT, go_sem] at ht hh
    subst ht; subst hh
    obtain ⟨h1, h2, h3⟩ := hF
    refine AW.seq ?_
    refine AW.regR rfl (by simp (maxSteps := 1000000) only [go_sem, Int.one_mul, hN] <;> exact rfl) (by first | (simp (disch := omega) only [go_sem, w64, wU, Int.one_mul, hN] <;> exact rfl) | exact rfl) ?_
    refine AW.cond (by simp (maxSteps := 1000000) only [go_sem, Int.one_mul, hN] <;> exact rfl) (fun hc1 => ?_) (fun hc1 => ?_)
    · try simp only [decide_eq_true_eq, decide_eq_false_iff_not, Bool.or_eq_true, Bool.or_eq_false_iff, Bool.and_eq_true, Bool.and_eq_false_imp, Bool.not_eq_true', Bool.not_eq_false'] at hc1
      have g1 : 0 ≤ pc := h1
      have g2 : pc < (code.length : Int) := hc1
      have gl : (pc < ((reachL code zeS).length : Int)) = True := eq_true (by rw [reachL_len]; omega)
      have hra : ((reachL code zeS).map boR)[pc.toNat]? = some [.bool (rB code zeS pc)] := reach_at ⟨h1, hc1⟩
      have hwp : IntKind.i64.wrap (pc + 1) = pc + 1 := w64 (by omega) (by omega)
      have hw1 : IntKind.i64.wrap ((code.length : Int) + 1) = (code.length : Int) + 1 := w64 (by omega) (by omega)
      have g3 : (0 ≤ (code.length : Int) + 1) = True := eq_true (by omega)
      have g4 : ((code.length : Int) + 1 ≤ 281474976710656) = True := eq_true (by omega)
      have g5 : ((code.length : Int) + 1 ≤ 9223372036854775807) = True := eq_true (by omega)
      have g6 : ((code.length : Int) + 1).toNat = code.length + 1 := by omega
      have g7 := fal_rows code.length
      refine AW.skip ?_
      show AW _ _ _ _ _
      refine AW.seq ?_
      refine AW.block ?_
      refine AW.seq ?_
      refine AW.regR rfl (by simp (maxSteps := 1000000) only [go_sem, Int.one_mul, hN, g1, g2, gl, hra, hwp, hw1, g3, g4, g5, g6, g7] <;> exact rfl) (by first | (simp (disch := omega) only [go_sem, w64, wU, Int.one_mul, hN, g1, g2, gl, hra, hwp, hw1, g3, g4, g5, g6, g7] <;> exact rfl) | exact rfl) ?_
      refine AW.cond (by simp (maxSteps := 1000000) only [go_sem, Int.one_mul, hN, g1, g2, gl, hra, hwp, hw1, g3, g4, g5, g6, g7] <;> exact rfl) (fun hc2 => ?_) (fun hc2 => ?_)
      · skip
        refine AW.exit ?_
        show AW _ _ _ _ _
        refine AW.regR1 rfl (by simp (maxSteps := 1000000) only [go_sem, Int.one_mul, hN, g1, g2, gl, hra, hwp, hw1, g3, g4, g5, g6, g7] <;> exact rfl) (by first | (simp (disch := omega) only [go_sem, w64, wU, Int.one_mul, hN, g1, g2, gl, hra, hwp, hw1, g3, g4, g5, g6, g7] <;> exact rfl) | exact rfl) ?_
        refine ⟨(pc + 1), ?_, ?_, ?_⟩
        · (try dsimp only); omega
        · exact ⟨by omega, by omega, fun a a1 a2 hr => if e : a < pc then h3 a a1 e hr else (by (have hap : a = pc := by omega); subst hap; simp at hc2; rw [rB_iff.2 hr] at hc2; cases hc2)⟩
        · refine Wk.to [] [] hz (by decide) ?_ ?_
          · simp (maxSteps := 1000000) (disch := omega) only [go_sem, w64, wU, Int.one_mul, hN, g1, g2, gl, hra, hwp, hw1, g3, g4, g5, g6, g7]
          · simp (maxSteps := 1000000) (disch := omega) only [go_sem, w64, wU, Int.one_mul, hN, g1, g2, gl, hra, hwp, hw1, g3, g4, g5, g6, g7]
      · skip
        refine AW.skip ?_
        show AW _ _ _ _ _
        refine AW.regR rfl (by simp (maxSteps := 1000000) only [go_sem, Int.one_mul, hN, g1, g2, gl, hra, hwp, hw1, g3, g4, g5, g6, g7] <;> exact rfl) (by first | (simp (disch := omega) only [go_sem, w64, wU, Int.one_mul, hN, g1, g2, gl, hra, hwp, hw1, g3, g4, g5, g6, g7] <;> exact rfl) | exact rfl) ?_
        refine AW.regS rfl ?_
        refine ARN.run1 (by simp (maxSteps := 1000000) only [go_sem, Int.one_mul, hN, g1, g2, gl, hra, hwp, hw1, g3, g4, g5, g6, g7] <;> exact rfl) ?_
        refine ARN.pcall (fun hp => c16 code pc hc hL) rfl (by simp (maxSteps := 1000000) only [go_sem, Int.one_mul, hN, g1, g2, gl, hra, hwp, hw1, g3, g4, g5, g6, g7] <;> exact rfl) (by simp only [go_sem]) (by simp (maxSteps := 1000000) only [go_sem, Int.one_mul, hN, g1, g2, gl, hra, hwp, hw1, g3, g4, g5, g6, g7] <;> exact rfl) ?_
        refine ARN.run1 (by simp (maxSteps := 1000000) only [go_sem, Int.one_mul, hN, g1, g2, gl, hra, hwp, hw1, g3, g4, g5, g6, g7] <;> exact rfl) ?_
        refine ARN.fin (by first | (simp (disch := omega) only [go_sem, w64, wU, Int.one_mul, hN, g1, g2, gl, hra, hwp, hw1, g3, g4, g5, g6, g7] <;> exact rfl) | exact rfl) ?_
        refine AW.seq ?_
        refine AW.regR rfl (by simp (maxSteps := 1000000) only [go_sem, Int.one_mul, hN, g1, g2, gl, hra, hwp, hw1, g3, g4, g5, g6, g7] <;> exact rfl) (by first | (simp (disch := omega) only [go_sem, w64, wU, Int.one_mul, hN, g1, g2, gl, hra, hwp, hw1, g3, g4, g5, g6, g7] <;> exact rfl) | exact rfl) ?_
        refine AW.block ?_
        refine AW.loopV (α := (List Bool) × (Int)) (fun ((X, k) : (List Bool) × (Int)) => [(5, .vs 0 0 (code.length + 1)), (7, .pv (.int .i64 k))]) (fun ((X, k) : (List Bool) × (Int)) => [.vec 1 (X.map boR)]) (fun ((X, k) : (List Bool) × (Int)) => (NeI code pc X k) ∧ (0 ≤ k) ∧ (k ≤ ((nextS code pc).length : Int))) (fun ((X, k) : (List Bool) × (Int)) => (((nextS code pc).length : Int) - k).toNat) (List.replicate (code.length + 1) false, 0) ?_ ?_ ?_
        · exact ⟨.start, by omega, by omega⟩
        · refine Wk.to [] [0] hz (by decide) ?_ ?_
          · simp (maxSteps := 1000000) (disch := omega) only [go_sem, w64, wU, Int.one_mul, hN, g1, g2, gl, hra, hwp, hw1, g3, g4, g5, g6, g7]
          · simp (maxSteps := 1000000) (disch := omega) only [go_sem, w64, wU, Int.one_mul, hN, g1, g2, gl, hra, hwp, hw1, g3, g4, g5, g6, g7]
        · rintro ⟨X, k⟩ hF _ ht _ hh
          simp only [updT, go_sem] at ht hh
          subst ht; subst hh
          obtain ⟨j1, j2, j3⟩ := hF
          refine AW.seq ?_
          refine AW.regR rfl (by simp (maxSteps := 1000000) only [go_sem, Int.one_mul, hN, g1, g2, gl, hra, hwp, hw1, g3, g4, g5, g6, g7] <;> exact rfl) (by first | (simp (disch := omega) only [go_sem, w64, wU, Int.one_mul, hN, g1, g2, gl, hra, hwp, hw1, g3, g4, g5, g6, g7] <;> exact rfl) | exact rfl) ?_
          refine AW.cond (by simp (maxSteps := 1000000) only [go_sem, Int.one_mul, hN, g1, g2, gl, hra, hwp, hw1, g3, g4, g5, g6, g7] <;> exact rfl) (fun hc3 => ?_) (fun hc3 => ?_)
          · try simp only [decide_eq_true_eq, decide_eq_false_iff_not, Bool.or_eq_true, Bool.or_eq_false_iff, Bool.and_eq_true, Bool.and_eq_false_imp, Bool.not_eq_true', Bool.not_eq_false'] at hc3
            have q0 : 0 ≤ k := j2
            have q1 : k < ((nextS code pc).length : Int) := hc3
            have hrk : ((nextS code pc).map nR)[k.toNat]? = some [.int .i64 ((nextS code pc).getD k.toNat 0)] := n_at ⟨j2, hc3⟩
            have hmem : ((nextS code pc).getD k.toNat 0) ∈ nextS code pc := getD_mem (by omega)
            have hto : 0 ≤ ((nextS code pc).getD k.toNat 0) ∧ ((nextS code pc).getD k.toNat 0) ≤ code.length := next_in hc hN hmem
            have t0 : 0 ≤ ((nextS code pc).getD k.toNat 0) := hto.1
            have t1 : (((nextS code pc).getD k.toNat 0) < ((code.length + 1 : Nat) : Int)) = True := eq_true (by have := hto.2; omega)
            have hlx3 : X.length = code.length + 1 := j1.len
            have hrt : (X.map boR)[((nextS code pc).getD k.toNat 0).toNat]? = some [.bool (X.getD ((nextS code pc).getD k.toNat 0).toNat false)] := bo_at ⟨hto.1, by have := hto.2; omega⟩
            have hkw : IntKind.i64.wrap (k + 1) = k + 1 := by have := next_len code pc; exact w64 (by omega) (by omega)
            refine AW.skip ?_
            show AW _ _ _ _ _
            refine AW.seq ?_
            refine AW.block ?_
            refine AW.regR1 rfl (by simp (maxSteps := 1000000) only [go_sem, Int.one_mul, hN, g1, g2, gl, hra, hwp, hw1, g3, g4, g5, g6, g7, q0, q1, hrk, hmem, hto, t0, t1, hlx3, hrt, hkw] <;> exact rfl) (by first | (simp (disch := omega) only [go_sem, w64, wU, Int.one_mul, hN, g1, g2, gl, hra, hwp, hw1, g3, g4, g5, g6, g7, q0, q1, hrk, hmem, hto, t0, t1, hlx3, hrt, hkw] <;> exact rfl) | exact rfl) ?_
            show AW _ _ _ _ _
            refine AW.regR1 rfl (by simp (maxSteps := 1000000) only [go_sem, Int.one_mul, hN, g1, g2, gl, hra, hwp, hw1, g3, g4, g5, g6, g7, q0, q1, hrk, hmem, hto, t0, t1, hlx3, hrt, hkw] <;> exact rfl) (by first | (simp (disch := omega) only [go_sem, w64, wU, Int.one_mul, hN, g1, g2, gl, hra, hwp, hw1, g3, g4, g5, g6, g7, q0, q1, hrk, hmem, hto, t0, t1, hlx3, hrt, hkw] <;> exact rfl) | exact rfl) ?_
            refine ⟨(X.set ((nextS code pc).getD k.toNat 0).toNat true, (k + 1)), ?_, ?_, ?_⟩
            · (try dsimp only); omega
            · exact ⟨j1.next j2 hc3 hto, by omega, by omega⟩
            · refine Wk.to [] [0] hz (by decide) ?_ ?_
              · simp (maxSteps := 1000000) (disch := omega) only [go_sem, w64, wU, Int.one_mul, hN, g1, g2, gl, hra, hwp, hw1, g3, g4, g5, g6, g7, q0, q1, hrk, hmem, hto, t0, t1, hlx3, hrt, hkw]
              · simp (maxSteps := 1000000) (disch := omega) only [go_sem, w64, wU, Int.one_mul, hN, g1, g2, gl, hra, hwp, hw1, g3, g4, g5, g6, g7, q0, q1, hrk, hmem, hto, t0, t1, hlx3, hrt, hkw]
          · try simp only [decide_eq_true_eq, decide_eq_false_iff_not, Bool.or_eq_true, Bool.or_eq_false_iff, Bool.and_eq_true, Bool.and_eq_false_imp, Bool.not_eq_true', Bool.not_eq_false'] at hc3
            refine AW.exit ?_
            show AW _ _ _ _ _
            have hlx := j1.len
            have glx : (pc < ((reachL code (atS X)).length : Int)) = True := eq_true (by rw [reachL_len]; omega)
            have hrx : ((reachL code (atS X)).map boR)[pc.toNat]? = some [.bool (rB code (atS X) pc)] := reach_at ⟨h1, hc1⟩
            have hcg : rB code (atS X) pc = rB code (neS code pc) pc := rB_congr (j1.S hc hN hc3) pc
            refine AW.regL ?_
            refine AWL.runGP 0 rfl rfl (by simp (maxSteps := 1000000) only [go_sem, Int.one_mul, hN, g1, g2, gl, hra, hwp, hw1, g3, g4, g5, g6, g7, hlx, glx, hrx, hcg] <;> exact rfl) ?_
            refine AWL.toU [(5, .pv (.lst false 1 (X.map boR)))] [.gone] [0] [0] hz (by decide) ?_ ?_ ?_
            · simp (maxSteps := 1000000) only [go_sem]
            · simp (maxSteps := 1000000) only [go_sem]; exact ⟨_, rfl, Sub.of (congrArg (PV.lst false 1) (bo_take j1.len))⟩
            intro t' ht
            simp only [updT, go_sem] at ht
            subst ht
            refine AWL.runG (by simp (maxSteps := 1000000) only [go_sem, Int.one_mul, hN, g1, g2, gl, hra, hwp, hw1, g3, g4, g5, g6, g7, hlx, glx, hrx, hcg] <;> exact rfl) ?_
            refine AWL.pcall2 (c54 code X hc hL j1.len) (by simp (maxSteps := 1000000) only [go_sem, Int.one_mul, hN, g1, g2, gl, hra, hwp, hw1, g3, g4, g5, g6, g7, hlx, glx, hrx, hcg] <;> exact rfl) rfl (by simp (maxSteps := 1000000) only [go_sem, Int.one_mul, hN, g1, g2, gl, hra, hwp, hw1, g3, g4, g5, g6, g7, hlx, glx, hrx, hcg] <;> exact rfl) (by simp (maxSteps := 1000000) only [go_sem, Int.one_mul, hN, g1, g2, gl, hra, hwp, hw1, g3, g4, g5, g6, g7, hlx, glx, hrx, hcg] <;> exact rfl) ?_
            refine AWL.runG (by simp (maxSteps := 1000000) only [go_sem, Int.one_mul, hN, g1, g2, gl, hra, hwp, hw1, g3, g4, g5, g6, g7, hlx, glx, hrx, hcg] <;> exact rfl) ?_
            refine AWL.fin (by first | (simp (disch := omega) only [go_sem, w64, wU, Int.one_mul, hN, g1, g2, gl, hra, hwp, hw1, g3, g4, g5, g6, g7, hlx, glx, hrx, hcg] <;> exact rfl) | exact rfl) ?_
            refine AW.cond (by simp (maxSteps := 1000000) only [go_sem, Int.one_mul, hN, g1, g2, gl, hra, hwp, hw1, g3, g4, g5, g6, g7, hlx, glx, hrx, hcg] <;> exact rfl) (fun hc4 => ?_) (fun hc4 => ?_)
            · skip
              refine AW.regR rfl (by simp (maxSteps := 1000000) only [go_sem, Int.one_mul, hN, g1, g2, gl, hra, hwp, hw1, g3, g4, g5, g6, g7, hlx, glx, hrx, hcg] <;> exact rfl) (by first | (simp (disch := omega) only [go_sem, w64, wU, Int.one_mul, hN, g1, g2, gl, hra, hwp, hw1, g3, g4, g5, g6, g7, hlx, glx, hrx, hcg] <;> exact rfl) | exact rfl) ?_
              refine retK.fin rfl (by simp (maxSteps := 1000000) only [go_sem, Int.one_mul, hN, g1, g2, gl, hra, hwp, hw1, g3, g4, g5, g6, g7, hlx, glx, hrx, hcg] <;> exact rfl) (by simp (maxSteps := 1000000) only [go_sem, Int.one_mul, hN, g1, g2, gl, hra, hwp, hw1, g3, g4, g5, g6, g7, hlx, glx, hrx, hcg] <;> exact rfl) (.of ?_)
              have h4 : rB code (neS code pc) pc = true := by simpa using hc4
              have h5 : rB code zeS pc = true := by simpa using hc2
              exact congrArg PV.bool (loopB_yes (rB_iff.1 h5) (rB_iff.1 h4)).symm
            · skip
              refine AW.skip ?_
              show AW _ _ _ _ _
              refine AW.regR1 rfl (by simp (maxSteps := 1000000) only [go_sem, Int.one_mul, hN, g1, g2, gl, hra, hwp, hw1, g3, g4, g5, g6, g7, hlx, glx, hrx, hcg] <;> exact rfl) (by first | (simp (disch := omega) only [go_sem, w64, wU, Int.one_mul, hN, g1, g2, gl, hra, hwp, hw1, g3, g4, g5, g6, g7, hlx, glx, hrx, hcg] <;> exact rfl) | exact rfl) ?_
              refine ⟨(pc + 1), ?_, ?_, ?_⟩
              · (try dsimp only); omega
              · exact ⟨by omega, by omega, fun a a1 a2 hr => if e : a < pc then h3 a a1 e hr else (by (have hap : a = pc := by omega); subst hap; intro hq; (have h4 : rB code (neS code a) a = false := by simpa using hc4); rw [rB_iff.2 hq] at h4; cases h4)⟩
              · refine Wk.to [] [] hz (by decide) ?_ ?_
                · simp (maxSteps := 1000000) (disch := omega) only [go_sem, w64, wU, Int.one_mul, hN, g1, g2, gl, hra, hwp, hw1, g3, g4, g5, g6, g7, hlx, glx, hrx, hcg]
                · simp (maxSteps := 1000000) (disch := omega) only [go_sem, w64, wU, Int.one_mul, hN, g1, g2, gl, hra, hwp, hw1, g3, g4, g5, g6, g7, hlx, glx, hrx, hcg]
    · try simp only [decide_eq_true_eq, decide_eq_false_iff_not, Bool.or_eq_true, Bool.or_eq_false_iff, Bool.and_eq_true, Bool.and_eq_false_imp, Bool.not_eq_true', Bool.not_eq_false'] at hc1
      refine AW.exit ?_
      show AW _ _ _ _ _
      refine AW.regR rfl (by simp (maxSteps := 1000000) only [go_sem, Int.one_mul, hN] <;> exact rfl) (by first | (simp (disch := omega) only [go_sem, w64, wU, Int.one_mul, hN] <;> exact rfl) | exact rfl) ?_
      refine retK.fin rfl (by simp (maxSteps := 1000000) only [go_sem, Int.one_mul, hN] <;> exact rfl) (by simp (maxSteps := 1000000) only [go_sem, Int.one_mul, hN] <;> exact rfl) (.of ?_)
      exact congrArg PV.bool (loopB_no fun a ha => if e : a < code.length then h3 a (ha.inn hc hN ze_in).1 (by omega) ha else no_loop_end e).symm
theorem c22 (code : List Ins) (hc : OkC code) (hL : code.length ≤ 100) : PC Try.prog 22 [.lst false 5 (code.map inR)] (.lst false 2 ((blkS code).map prR)) := by
  refine PC.start 84 Try.call22 Try.func22 rfl Try.ntmps22 Try.results22 (by simp only [go_sem]; exact rfl) fun z hz => ?_
  have hw1 : IntKind.i64.wrap ((code.length : Int) + 1) = (code.length : Int) + 1 := w64 (by omega) (by omega)
  have g1 : (0 ≤ (code.length : Int) + 1) = True := eq_true (by omega)
  have g2 : ((code.length : Int) + 1 ≤ 281474976710656) = True := eq_true (by omega)
  have g3 : ((code.length : Int) + 1 ≤ 9223372036854775807) = True := eq_true (by omega)
  have g4 : ((code.length : Int) + 1).toNat = code.length + 1 := by omega
  have g6 : (0 < ((code.length + 1 : Nat) : Int)) = True := eq_true (by omega)
  have hz0 := zrow_rows code.length
  refine AW.regR rfl (by simp (maxSteps := 1000000) only [go_sem, Int.one_mul, List.map_append, List.map_cons, List.map_nil, List.length_append, List.length_cons, List.length_nil, hw1, g1, g2, g3, g4, g6, hz0] <;> exact rfl) (by first | (simp (disch := omega) only [go_sem, w64, wU, Int.one_mul, List.map_append, List.map_cons, List.map_nil, List.length_append, List.length_cons, List.length_nil, hw1, g1, g2, g3, g4, g6, hz0] <;> exact rfl) | exact rfl) ?_
  refine AW.regR rfl (by simp (maxSteps := 1000000) only [go_sem, Int.one_mul, List.map_append, List.map_cons, List.map_nil, List.length_append, List.length_cons, List.length_nil, hw1, g1, g2, g3, g4, g6, hz0] <;> exact rfl) (by first | (simp (disch := omega) only [go_sem, w64, wU, Int.one_mul, List.map_append, List.map_cons, List.map_nil, List.length_append, List.length_cons, List.length_nil, hw1, g1, g2, g3, g4, g6, hz0] <;> exact rfl) | exact rfl) ?_
  refine AW.regR rfl (by simp (maxSteps := 1000000) only [go_sem, Int.one_mul, List.map_append, List.map_cons, List.map_nil, List.length_append, List.length_cons, List.length_nil, hw1, g1, g2, g3, g4, g6, hz0] <;> exact rfl) (by first | (simp (disch := omega) only [go_sem, w64, wU, Int.one_mul, List.map_append, List.map_cons, List.map_nil, List.length_append, List.length_cons, List.length_nil, hw1, g1, g2, g3, g4, g6, hz0] <;> exact rfl) | exact rfl) ?_
  refine AW.seq ?_
  refine AW.regR rfl (by simp (maxSteps := 1000000) only [go_sem, Int.one_mul, List.map_append, List.map_cons, List.map_nil, List.length_append, List.length_cons, List.length_nil, hw1, g1, g2, g3, g4, g6, hz0] <;> exact rfl) (by first | (simp (disch := omega) only [go_sem, w64, wU, Int.one_mul, List.map_append, List.map_cons, List.map_nil, List.length_append, List.length_cons, List.length_nil, hw1, g1, g2, g3, g4, g6, hz0] <;> exact rfl) | exact rfl) ?_
  refine AW.block ?_
  refine AW.loopV (α := (List Bool) × (Int)) (fun ((X, pc) : (List Bool) × (Int)) => [(3, .vs 0 0 (code.length + 1)), (4, .pv (.int .i64 pc))]) (fun ((X, pc) : (List Bool) × (Int)) => [.vec 1 (X.map boR)]) (fun ((X, pc) : (List Bool) × (Int)) => (0 ≤ pc) ∧ (pc ≤ (code.length : Int)) ∧ (FsI code X pc)) (fun ((X, pc) : (List Bool) × (Int)) => ((code.length : Int) - pc).toNat) (zrow code.length, 0) ?_ ?_ ?_
  · exact ⟨by omega, by omega, .start⟩
  · refine Wk.to [] [0] hz (by decide) ?_ ?_
    · simp (maxSteps := 1000000) (disch := omega) only [go_sem, w64, wU, Int.one_mul, List.map_append, List.map_cons, List.map_nil, List.length_append, List.length_cons, List.length_nil, hw1, g1, g2, g3, g4, g6, hz0]
    · simp (maxSteps := 1000000) (disch := omega) only [go_sem, w64, wU, Int.one_mul, List.map_append, List.map_cons, List.map_nil, List.length_append, List.length_cons, List.length_nil, hw1, g1, g2, g3, g4, g6, hz0]
  · rintro ⟨X, pc⟩ hF _ ht _ hh
    simp only [updT, go_sem] at ht hh
    subst ht; subst hh
    obtain ⟨h1, h2, h3⟩ := hF
    refine AW.seq ?_
    refine AW.regR rfl (by simp (maxSteps := 1000000) only [go_sem, Int.one_mul, List.map_append, List.map_cons, List.map_nil, List.length_append, List.length_cons, List.length_nil, hw1, g1, g2, g3, g4, g6, hz0] <;> exact rfl) (by first | (simp (disch := omega) only [go_sem, w64, wU, Int.one_mul, List.map_append, List.map_cons, List.map_nil, List.length_append, List.length_cons, List.length_nil, hw1, g1, g2, g3, g4, g6, hz0] <;> exact rfl) | exact rfl) ?_
    refine AW.cond (by simp (maxSteps := 1000000) only [go_sem, Int.one_mul, List.map_append, List.map_cons, List.map_nil, List.length_append, List.length_cons, List.length_nil, hw1, g1, g2, g3, g4, g6, hz0] <;> exact rfl) (fun hc1 => ?_) (fun hc1 => ?_)
    · try simp only [decide_eq_true_eq, decide_eq_false_iff_not, Bool.or_eq_true, Bool.or_eq_false_iff, Bool.and_eq_true, Bool.and_eq_false_imp, Bool.not_eq_true', Bool.not_eq_false'] at hc1
      have q1 : 0 ≤ pc := h1
      have q2 : pc < (code.length : Int) := hc1
      have hr : (code.map inR)[pc.toNat]? = some [.int .i64 (code.getD pc.toNat i0).1, .int .i64 (code.getD pc.toNat i0).2.1, .int .i64 (code.getD pc.toNat i0).2.2.1, .int .i64 (code.getD pc.toNat i0).2.2.2.1, .int .u64 (code.getD pc.toNat i0).2.2.2.2] := in_at ⟨h1, hc1⟩
      have hwp : IntKind.i64.wrap (pc + 1) = pc + 1 := w64 (by omega) (by omega)
      have hwu : IntKind.u64.wrap (code.length : Int) = code.length := wU (by omega) (by omega)
      have hm0 : 0 ≤ (code.getD pc.toNat i0).2.2.2.2 := (code_m hc ⟨h1, hc1⟩).1
      have hlx := h3.len
      have t1 : ((pc + 1) < ((code.length + 1 : Nat) : Int)) = True := eq_true (by omega)
      have t2 : 0 ≤ pc + 1 := by omega
      have hrp : (X.map boR)[(pc + 1).toNat]? = some [.bool (X.getD (pc + 1).toNat false)] := bo_at ⟨by omega, by omega⟩
      refine AW.skip ?_
      show AW _ _ _ _ _
      refine AW.seq ?_
      refine AW.block ?_
      refine AW.regR rfl (by simp (maxSteps := 1000000) only [go_sem, Int.one_mul, List.map_append, List.map_cons, List.map_nil, List.length_append, List.length_cons, List.length_nil, hw1, g1, g2, g3, g4, g6, hz0, q1, q2, hr, hwp, hwu, hm0, hlx, t1, t2, hrp] <;> exact rfl) (by first | (simp (disch := omega) only [go_sem, w64, wU, Int.one_mul, List.map_append, List.map_cons, List.map_nil, List.length_append, List.length_cons, List.length_nil, hw1, g1, g2, g3, g4, g6, hz0, q1, q2, hr, hwp, hwu, hm0, hlx, t1, t2, hrp] <;> exact rfl) | exact rfl) ?_
      refine AW.seq ?_
      refine AW.regR rfl (by simp (maxSteps := 1000000) only [go_sem, Int.one_mul, List.map_append, List.map_cons, List.map_nil, List.length_append, List.length_cons, List.length_nil, hw1, g1, g2, g3, g4, g6, hz0, q1, q2, hr, hwp, hwu, hm0, hlx, t1, t2, hrp] <;> exact rfl) (by first | (simp (disch := omega) only [go_sem, w64, wU, Int.one_mul, List.map_append, List.map_cons, List.map_nil, List.length_append, List.length_cons, List.length_nil, hw1, g1, g2, g3, g4, g6, hz0, q1, q2, hr, hwp, hwu, hm0, hlx, t1, t2, hrp] <;> exact rfl) | exact rfl) ?_
      refine AW.cond (by simp (maxSteps := 1000000) only [go_sem, Int.one_mul, List.map_append, List.map_cons, List.map_nil, List.length_append, List.length_cons, List.length_nil, hw1, g1, g2, g3, g4, g6, hz0, q1, q2, hr, hwp, hwu, hm0, hlx, t1, t2, hrp] <;> exact rfl) (fun hc2 => ?_) (fun hc2 => ?_)
      · try simp only [decide_eq_true_eq, decide_eq_false_iff_not, Bool.or_eq_true, Bool.or_eq_false_iff, Bool.and_eq_true, Bool.and_eq_false_imp, Bool.not_eq_true', Bool.not_eq_false'] at hc2
        have hT : tgt code pc (imI code pc) := ⟨hc2.1, hc2.2, rfl⟩
        have hml : ((code.getD pc.toNat i0).2.2.2.2 < ((code.length + 1 : Nat) : Int)) = True := eq_true (by have : imI code pc < code.length := hT.2.1; unfold imI at this; omega)
        have hrm : (X.map boR)[((code.getD pc.toNat i0).2.2.2.2).toNat]? = some [.bool (X.getD ((code.getD pc.toNat i0).2.2.2.2).toNat false)] := bo_at ⟨hm0, by have : imI code pc < code.length := hT.2.1; unfold imI at this; omega⟩
        have hrp2 : ((X.map boR).set ((code.getD pc.toNat i0).2.2.2.2).toNat [PV.bool true])[(pc + 1).toNat]? = some [.bool ((X.set ((code.getD pc.toNat i0).2.2.2.2).toNat true).getD (pc + 1).toNat false)] := by have := bo_at (l := X.set ((code.getD pc.toNat i0).2.2.2.2).toNat true) (j := pc + 1) ⟨by omega, by simp; omega⟩; rw [List.map_set] at this; exact this
        refine AW.regR1 rfl (by simp (maxSteps := 1000000) only [go_sem, Int.one_mul, List.map_append, List.map_cons, List.map_nil, List.length_append, List.length_cons, List.length_nil, hw1, g1, g2, g3, g4, g6, hz0, q1, q2, hr, hwp, hwu, hm0, hlx, t1, t2, hrp, hT, hml, hrm, hrp2] <;> exact rfl) (by first | (simp (disch := omega) only [go_sem, w64, wU, Int.one_mul, List.map_append, List.map_cons, List.map_nil, List.length_append, List.length_cons, List.length_nil, hw1, g1, g2, g3, g4, g6, hz0, q1, q2, hr, hwp, hwu, hm0, hlx, t1, t2, hrp, hT, hml, hrm, hrp2] <;> exact rfl) | exact rfl) ?_
        show AW _ _ _ _ _
        refine AW.regS rfl ?_
        refine ARN.run1 (by simp (maxSteps := 1000000) only [go_sem, Int.one_mul, List.map_append, List.map_cons, List.map_nil, List.length_append, List.length_cons, List.length_nil, hw1, g1, g2, g3, g4, g6, hz0, q1, q2, hr, hwp, hwu, hm0, hlx, t1, t2, hrp, hT, hml, hrm, hrp2] <;> exact rfl) ?_
        refine ARN.pcall (fun hp => c55 (code.getD pc.toNat i0).1 (code.getD pc.toNat i0).2.1 (code.getD pc.toNat i0).2.2.1 (code.getD pc.toNat i0).2.2.2.1 (code.getD pc.toNat i0).2.2.2.2) rfl (by simp (maxSteps := 1000000) only [go_sem, Int.one_mul, List.map_append, List.map_cons, List.map_nil, List.length_append, List.length_cons, List.length_nil, hw1, g1, g2, g3, g4, g6, hz0, q1, q2, hr, hwp, hwu, hm0, hlx, t1, t2, hrp, hT, hml, hrm, hrp2] <;> exact rfl) (by simp only [go_sem]) (by simp (maxSteps := 1000000) only [go_sem, Int.one_mul, List.map_append, List.map_cons, List.map_nil, List.length_append, List.length_cons, List.length_nil, hw1, g1, g2, g3, g4, g6, hz0, q1, q2, hr, hwp, hwu, hm0, hlx, t1, t2, hrp, hT, hml, hrm, hrp2] <;> exact rfl) ?_
        refine ARN.fin (by first | (simp (disch := omega) only [go_sem, w64, wU, Int.one_mul, List.map_append, List.map_cons, List.map_nil, List.length_append, List.length_cons, List.length_nil, hw1, g1, g2, g3, g4, g6, hz0, q1, q2, hr, hwp, hwu, hm0, hlx, t1, t2, hrp, hT, hml, hrm, hrp2] <;> exact rfl) | exact rfl) ?_
        refine AW.cond (by simp (maxSteps := 1000000) only [go_sem, Int.one_mul, List.map_append, List.map_cons, List.map_nil, List.length_append, List.length_cons, List.length_nil, hw1, g1, g2, g3, g4, g6, hz0, q1, q2, hr, hwp, hwu, hm0, hlx, t1, t2, hrp, hT, hml, hrm, hrp2] <;> exact rfl) (fun hc3 => ?_) (fun hc3 => ?_)
        · skip
          refine AW.regR1 rfl (by simp (maxSteps := 1000000) only [go_sem, Int.one_mul, List.map_append, List.map_cons, List.map_nil, List.length_append, List.length_cons, List.length_nil, hw1, g1, g2, g3, g4, g6, hz0, q1, q2, hr, hwp, hwu, hm0, hlx, t1, t2, hrp, hT, hml, hrm, hrp2] <;> exact rfl) (by first | (simp (disch := omega) only [go_sem, w64, wU, Int.one_mul, List.map_append, List.map_cons, List.map_nil, List.length_append, List.length_cons, List.length_nil, hw1, g1, g2, g3, g4, g6, hz0, q1, q2, hr, hwp, hwu, hm0, hlx, t1, t2, hrp, hT, hml, hrm, hrp2] <;> exact rfl) | exact rfl) ?_
          show AW _ _ _ _ _
          refine AW.regR1 rfl (by simp (maxSteps := 1000000) only [go_sem, Int.one_mul, List.map_append, List.map_cons, List.map_nil, List.length_append, List.length_cons, List.length_nil, hw1, g1, g2, g3, g4, g6, hz0, q1, q2, hr, hwp, hwu, hm0, hlx, t1, t2, hrp, hT, hml, hrm, hrp2] <;> exact rfl) (by first | (simp (disch := omega) only [go_sem, w64, wU, Int.one_mul, List.map_append, List.map_cons, List.map_nil, List.length_append, List.length_cons, List.length_nil, hw1, g1, g2, g3, g4, g6, hz0, q1, q2, hr, hwp, hwu, hm0, hlx, t1, t2, hrp, hT, hml, hrm, hrp2] <;> exact rfl) | exact rfl) ?_
          refine ⟨((X.set ((code.getD pc.toNat i0).2.2.2.2).toNat true).set (pc + 1).toNat true, pc + 1), ?_, ?_, ?_⟩
          · (try dsimp only); omega
          · exact ⟨by omega, by omega, h3.next ⟨h1, hc1⟩ hm0 (if_pos hT).symm (if_pos hc3).symm⟩
          · refine Wk.to [] [0] hz (by decide) ?_ ?_
            · simp (maxSteps := 1000000) (disch := omega) only [go_sem, w64, wU, Int.one_mul, List.map_append, List.map_cons, List.map_nil, List.length_append, List.length_cons, List.length_nil, hw1, g1, g2, g3, g4, g6, hz0, q1, q2, hr, hwp, hwu, hm0, hlx, t1, t2, hrp, hT, hml, hrm, hrp2]
            · simp (maxSteps := 1000000) (disch := omega) only [go_sem, w64, wU, Int.one_mul, List.map_append, List.map_cons, List.map_nil, List.length_append, List.length_cons, List.length_nil, hw1, g1, g2, g3, g4, g6, hz0, q1, q2, hr, hwp, hwu, hm0, hlx, t1, t2, hrp, hT, hml, hrm, hrp2]
        · skip
          refine AW.skip ?_
          show AW _ _ _ _ _
          refine AW.regR1 rfl (by simp (maxSteps := 1000000) only [go_sem, Int.one_mul, List.map_append, List.map_cons, List.map_nil, List.length_append, List.length_cons, List.length_nil, hw1, g1, g2, g3, g4, g6, hz0, q1, q2, hr, hwp, hwu, hm0, hlx, t1, t2, hrp, hT, hml, hrm, hrp2] <;> exact rfl) (by first | (simp (disch := omega) only [go_sem, w64, wU, Int.one_mul, List.map_append, List.map_cons, List.map_nil, List.length_append, List.length_cons, List.length_nil, hw1, g1, g2, g3, g4, g6, hz0, q1, q2, hr, hwp, hwu, hm0, hlx, t1, t2, hrp, hT, hml, hrm, hrp2] <;> exact rfl) | exact rfl) ?_
          refine ⟨(X.set ((code.getD pc.toNat i0).2.2.2.2).toNat true, pc + 1), ?_, ?_, ?_⟩
          · (try dsimp only); omega
          · exact ⟨by omega, by omega, h3.next ⟨h1, hc1⟩ hm0 (if_pos hT).symm (if_neg (by rw [show endI (opI code pc) = false from hc3]; exact Bool.false_ne_true)).symm⟩
          · refine Wk.to [] [0] hz (by decide) ?_ ?_
            · simp (maxSteps := 1000000) (disch := omega) only [go_sem, w64, wU, Int.one_mul, List.map_append, List.map_cons, List.map_nil, List.length_append, List.length_cons, List.length_nil, hw1, g1, g2, g3, g4, g6, hz0, q1, q2, hr, hwp, hwu, hm0, hlx, t1, t2, hrp, hT, hml, hrm, hrp2]
            · simp (maxSteps := 1000000) (disch := omega) only [go_sem, w64, wU, Int.one_mul, List.map_append, List.map_cons, List.map_nil, List.length_append, List.length_cons, List.length_nil, hw1, g1, g2, g3, g4, g6, hz0, q1, q2, hr, hwp, hwu, hm0, hlx, t1, t2, hrp, hT, hml, hrm, hrp2]
      · try simp only [decide_eq_true_eq, decide_eq_false_iff_not, Bool.or_eq_true, Bool.or_eq_false_iff, Bool.and_eq_true, Bool.and_eq_false_imp, Bool.not_eq_true', Bool.not_eq_false'] at hc2
        have hF : ¬ tgt code pc (imI code pc) := fun q => hc2 q.1 q.2.1
        refine AW.skip ?_
        show AW _ _ _ _ _
        refine AW.regS rfl ?_
        refine ARN.run1 (by simp (maxSteps := 1000000) only [go_sem, Int.one_mul, List.map_append, List.map_cons, List.map_nil, List.length_append, List.length_cons, List.length_nil, hw1, g1, g2, g3, g4, g6, hz0, q1, q2, hr, hwp, hwu, hm0, hlx, t1, t2, hrp, hF] <;> exact rfl) ?_
        refine ARN.pcall (fun hp => c55 (code.getD pc.toNat i0).1 (code.getD pc.toNat i0).2.1 (code.getD pc.toNat i0).2.2.1 (code.getD pc.toNat i0).2.2.2.1 (code.getD pc.toNat i0).2.2.2.2) rfl (by simp (maxSteps := 1000000) only [go_sem, Int.one_mul, List.map_append, List.map_cons, List.map_nil, List.length_append, List.length_cons, List.length_nil, hw1, g1, g2, g3, g4, g6, hz0, q1, q2, hr, hwp, hwu, hm0, hlx, t1, t2, hrp, hF] <;> exact rfl) (by simp only [go_sem]) (by simp (maxSteps := 1000000) only [go_sem, Int.one_mul, List.map_append, List.map_cons, List.map_nil, List.length_append, List.length_cons, List.length_nil, hw1, g1, g2, g3, g4, g6, hz0, q1, q2, hr, hwp, hwu, hm0, hlx, t1, t2, hrp, hF] <;> exact rfl) ?_
        refine ARN.fin (by first | (simp (disch := omega) only [go_sem, w64, wU, Int.one_mul, List.map_append, List.map_cons, List.map_nil, List.length_append, List.length_cons, List.length_nil, hw1, g1, g2, g3, g4, g6, hz0, q1, q2, hr, hwp, hwu, hm0, hlx, t1, t2, hrp, hF] <;> exact rfl) | exact rfl) ?_
        refine AW.cond (by simp (maxSteps := 1000000) only [go_sem, Int.one_mul, List.map_append, List.map_cons, List.map_nil, List.length_append, List.length_cons, List.length_nil, hw1, g1, g2, g3, g4, g6, hz0, q1, q2, hr, hwp, hwu, hm0, hlx, t1, t2, hrp, hF] <;> exact rfl) (fun hc4 => ?_) (fun hc4 => ?_)
        · skip
          refine AW.regR1 rfl (by simp (maxSteps := 1000000) only [go_sem, Int.one_mul, List.map_append, List.map_cons, List.map_nil, List.length_append, List.length_cons, List.length_nil, hw1, g1, g2, g3, g4, g6, hz0, q1, q2, hr, hwp, hwu, hm0, hlx, t1, t2, hrp, hF] <;> exact rfl) (by first | (simp (disch := omega) only [go_sem, w64, wU, Int.one_mul, List.map_append, List.map_cons, List.map_nil, List.length_append, List.length_cons, List.length_nil, hw1, g1, g2, g3, g4, g6, hz0, q1, q2, hr, hwp, hwu, hm0, hlx, t1, t2, hrp, hF] <;> exact rfl) | exact rfl) ?_
          show AW _ _ _ _ _
          refine AW.regR1 rfl (by simp (maxSteps := 1000000) only [go_sem, Int.one_mul, List.map_append, List.map_cons, List.map_nil, List.length_append, List.length_cons, List.length_nil, hw1, g1, g2, g3, g4, g6, hz0, q1, q2, hr, hwp, hwu, hm0, hlx, t1, t2, hrp, hF] <;> exact rfl) (by first | (simp (disch := omega) only [go_sem, w64, wU, Int.one_mul, List.map_append, List.map_cons, List.map_nil, List.length_append, List.length_cons, List.length_nil, hw1, g1, g2, g3, g4, g6, hz0, q1, q2, hr, hwp, hwu, hm0, hlx, t1, t2, hrp, hF] <;> exact rfl) | exact rfl) ?_
          refine ⟨(X.set (pc + 1).toNat true, pc + 1), ?_, ?_, ?_⟩
          · (try dsimp only); omega
          · exact ⟨by omega, by omega, h3.next ⟨h1, hc1⟩ hm0 (if_neg hF).symm (if_pos hc4).symm⟩
          · refine Wk.to [] [0] hz (by decide) ?_ ?_
            · simp (maxSteps := 1000000) (disch := omega) only [go_sem, w64, wU, Int.one_mul, List.map_append, List.map_cons, List.map_nil, List.length_append, List.length_cons, List.length_nil, hw1, g1, g2, g3, g4, g6, hz0, q1, q2, hr, hwp, hwu, hm0, hlx, t1, t2, hrp, hF]
            · simp (maxSteps := 1000000) (disch := omega) only [go_sem, w64, wU, Int.one_mul, List.map_append, List.map_cons, List.map_nil, List.length_append, List.length_cons, List.length_nil, hw1, g1, g2, g3, g4, g6, hz0, q1, q2, hr, hwp, hwu, hm0, hlx, t1, t2, hrp, hF]
        · skip
          refine AW.skip ?_
          show AW _ _ _ _ _
          refine AW.regR1 rfl (by simp (maxSteps := 1000000) only [go_sem, Int.one_mul, List.map_append, List.map_cons, List.map_nil, List.length_append, List.length_cons, List.length_nil, hw1, g1, g2, g3, g4, g6, hz0, q1, q2, hr, hwp, hwu, hm0, hlx, t1, t2, hrp, hF] <;> exact rfl) (by first | (simp (disch := omega) only [go_sem, w64, wU, Int.one_mul, List.map_append, List.map_cons, List.map_nil, List.length_append, List.length_cons, List.length_nil, hw1, g1, g2, g3, g4, g6, hz0, q1, q2, hr, hwp, hwu, hm0, hlx, t1, t2, hrp, hF] <;> exact rfl) | exact rfl) ?_
          refine ⟨(X, pc + 1), ?_, ?_, ?_⟩
          · (try dsimp only); omega
          · exact ⟨by omega, by omega, h3.next ⟨h1, hc1⟩ hm0 (if_neg hF).symm (if_neg (by rw [show endI (opI code pc) = false from hc4]; exact Bool.false_ne_true)).symm⟩
          · refine Wk.to [] [0] hz (by decide) ?_ ?_
            · simp (maxSteps := 1000000) (disch := omega) only [go_sem, w64, wU, Int.one_mul, List.map_append, List.map_cons, List.map_nil, List.length_append, List.length_cons, List.length_nil, hw1, g1, g2, g3, g4, g6, hz0, q1, q2, hr, hwp, hwu, hm0, hlx, t1, t2, hrp, hF]
            · simp (maxSteps := 1000000) (disch := omega) only [go_sem, w64, wU, Int.one_mul, List.map_append, List.map_cons, List.map_nil, List.length_append, List.length_cons, List.length_nil, hw1, g1, g2, g3, g4, g6, hz0, q1, q2, hr, hwp, hwu, hm0, hlx, t1, t2, hrp, hF]
    · try simp only [decide_eq_true_eq, decide_eq_false_iff_not, Bool.or_eq_true, Bool.or_eq_false_iff, Bool.and_eq_true, Bool.and_eq_false_imp, Bool.not_eq_true', Bool.not_eq_false'] at hc1
      refine AW.exit ?_
      show AW _ _ _ _ _
      have h4 : FsI code X (code.length : Int) := by (have : pc = code.length := by omega); rw [← this]; exact h3
      refine AW.regR rfl (by simp (maxSteps := 1000000) only [go_sem, Int.one_mul, List.map_append, List.map_cons, List.map_nil, List.length_append, List.length_cons, List.length_nil, hw1, g1, g2, g3, g4, g6, hz0] <;> exact rfl) (by first | (simp (disch := omega) only [go_sem, w64, wU, Int.one_mul, List.map_append, List.map_cons, List.map_nil, List.length_append, List.length_cons, List.length_nil, hw1, g1, g2, g3, g4, g6, hz0] <;> exact rfl) | exact rfl) ?_
      refine AW.seq ?_
      refine AW.regR rfl (by simp (maxSteps := 1000000) only [go_sem, Int.one_mul, List.map_append, List.map_cons, List.map_nil, List.length_append, List.length_cons, List.length_nil, hw1, g1, g2, g3, g4, g6, hz0] <;> exact rfl) (by first | (simp (disch := omega) only [go_sem, w64, wU, Int.one_mul, List.map_append, List.map_cons, List.map_nil, List.length_append, List.length_cons, List.length_nil, hw1, g1, g2, g3, g4, g6, hz0] <;> exact rfl) | exact rfl) ?_
      refine AW.block ?_
      refine AW.loopV (α := (List (Int × Int)) × (Int)) (fun ((L, p) : (List (Int × Int)) × (Int)) => [(6, .vs 1 0 L.length), (7, .pv (.int .i64 p))]) (fun ((L, p) : (List (Int × Int)) × (Int)) => [.vec 1 (X.map boR), .vec 2 (L.map prR)]) (fun ((L, p) : (List (Int × Int)) × (Int)) => (0 ≤ p) ∧ (p ≤ (code.length : Int)) ∧ (BkI (fsB code code.length) code.length L p)) (fun ((L, p) : (List (Int × Int)) × (Int)) => ((code.length : Int) - p).toNat) ([], 0) ?_ ?_ ?_
      · exact ⟨by omega, by omega, .start (by omega) (fsB_0 code _)⟩
      · exact Wk.vec 2 6 0 rfl
      · rintro ⟨L, p⟩ hF _ ht _ hh
        simp only [updT, go_sem] at ht hh
        subst ht; subst hh
        obtain ⟨k1, k2, k3⟩ := hF
        refine AW.seq ?_
        refine AW.regR rfl (by simp (maxSteps := 1000000) only [go_sem, Int.one_mul, List.map_append, List.map_cons, List.map_nil, List.length_append, List.length_cons, List.length_nil, hw1, g1, g2, g3, g4, g6, hz0] <;> exact rfl) (by first | (simp (disch := omega) only [go_sem, w64, wU, Int.one_mul, List.map_append, List.map_cons, List.map_nil, List.length_append, List.length_cons, List.length_nil, hw1, g1, g2, g3, g4, g6, hz0] <;> exact rfl) | exact rfl) ?_
        refine AW.cond (by simp (maxSteps := 1000000) only [go_sem, Int.one_mul, List.map_append, List.map_cons, List.map_nil, List.length_append, List.length_cons, List.length_nil, hw1, g1, g2, g3, g4, g6, hz0] <;> exact rfl) (fun hc5 => ?_) (fun hc5 => ?_)
        · try simp only [decide_eq_true_eq, decide_eq_false_iff_not, Bool.or_eq_true, Bool.or_eq_false_iff, Bool.and_eq_true, Bool.and_eq_false_imp, Bool.not_eq_true', Bool.not_eq_false'] at hc5
          have q3 : 0 ≤ p := k1
          have q4 : p < (code.length : Int) := hc5
          have t5 : (p < ((code.length + 1 : Nat) : Int)) = True := eq_true (by omega)
          have hwq : IntKind.i64.wrap (p + 1) = p + 1 := w64 (by omega) (by omega)
          have hlx := h4.len
          have hrf : (X.map boR)[p.toNat]? = some [.bool (fsB code code.length p)] := by rw [← fs_at h4 ⟨k1, k2⟩]; exact bo_at ⟨k1, by omega⟩
          refine AW.skip ?_
          show AW _ _ _ _ _
          refine AW.seq ?_
          refine AW.block ?_
          refine AW.seq ?_
          refine AW.regR rfl (by simp (maxSteps := 1000000) only [go_sem, Int.one_mul, List.map_append, List.map_cons, List.map_nil, List.length_append, List.length_cons, List.length_nil, hw1, g1, g2, g3, g4, g6, hz0, q3, q4, t5, hwq, hlx, hrf] <;> exact rfl) (by first | (simp (disch := omega) only [go_sem, w64, wU, Int.one_mul, List.map_append, List.map_cons, List.map_nil, List.length_append, List.length_cons, List.length_nil, hw1, g1, g2, g3, g4, g6, hz0, q3, q4, t5, hwq, hlx, hrf] <;> exact rfl) | exact rfl) ?_
          refine AW.cond (by simp (maxSteps := 1000000) only [go_sem, Int.one_mul, List.map_append, List.map_cons, List.map_nil, List.length_append, List.length_cons, List.length_nil, hw1, g1, g2, g3, g4, g6, hz0, q3, q4, t5, hwq, hlx, hrf] <;> exact rfl) (fun hc6 => ?_) (fun hc6 => ?_)
          · skip
            refine AW.exit ?_
            show AW _ _ _ _ _
            refine AW.regR1 rfl (by simp (maxSteps := 1000000) only [go_sem, Int.one_mul, List.map_append, List.map_cons, List.map_nil, List.length_append, List.length_cons, List.length_nil, hw1, g1, g2, g3, g4, g6, hz0, q3, q4, t5, hwq, hlx, hrf] <;> exact rfl) (by first | (simp (disch := omega) only [go_sem, w64, wU, Int.one_mul, List.map_append, List.map_cons, List.map_nil, List.length_append, List.length_cons, List.length_nil, hw1, g1, g2, g3, g4, g6, hz0, q3, q4, t5, hwq, hlx, hrf] <;> exact rfl) | exact rfl) ?_
            refine ⟨(L, p + 1), ?_, ?_, ?_⟩
            · (try dsimp only); omega
            · exact ⟨by omega, by omega, k3.no hc5 (by simpa using hc6)⟩
            · refine Wk.to [] [0, 1] hz (by decide) ?_ ?_
              · simp (maxSteps := 1000000) (disch := omega) only [go_sem, w64, wU, Int.one_mul, List.map_append, List.map_cons, List.map_nil, List.length_append, List.length_cons, List.length_nil, hw1, g1, g2, g3, g4, g6, hz0, q3, q4, t5, hwq, hlx, hrf]
              · simp (maxSteps := 1000000) (disch := omega) only [go_sem, w64, wU, Int.one_mul, List.map_append, List.map_cons, List.map_nil, List.length_append, List.length_cons, List.length_nil, hw1, g1, g2, g3, g4, g6, hz0, q3, q4, t5, hwq, hlx, hrf]
          · skip
            refine AW.skip ?_
            show AW _ _ _ _ _
            refine AW.regR rfl (by simp (maxSteps := 1000000) only [go_sem, Int.one_mul, List.map_append, List.map_cons, List.map_nil, List.length_append, List.length_cons, List.length_nil, hw1, g1, g2, g3, g4, g6, hz0, q3, q4, t5, hwq, hlx, hrf] <;> exact rfl) (by first | (simp (disch := omega) only [go_sem, w64, wU, Int.one_mul, List.map_append, List.map_cons, List.map_nil, List.length_append, List.length_cons, List.length_nil, hw1, g1, g2, g3, g4, g6, hz0, q3, q4, t5, hwq, hlx, hrf] <;> exact rfl) | exact rfl) ?_
            refine AW.seq ?_
            refine AW.block ?_
            refine AW.loopVh (α := (Int)) (fun (e : (Int)) => [(8, .pv (.int .i64 e))]) (fun (e : (Int)) => (p + 1 ≤ e) ∧ (e ≤ (code.length : Int)) ∧ (∀ k, p < k → k < e → fsB code code.length k = false)) (fun (e : (Int)) => ((code.length : Int) - e).toNat) (p + 1) ?_ ?_ ?_
            · exact ⟨by omega, by omega, fun k a b => by omega⟩
            · refine Wk.sub ?_
              simp (maxSteps := 1000000) (disch := omega) only [go_sem, w64, wU, Int.one_mul, List.map_append, List.map_cons, List.map_nil, List.length_append, List.length_cons, List.length_nil, hw1, g1, g2, g3, g4, g6, hz0, q3, q4, t5, hwq, hlx, hrf]
            · rintro e hF _ ht
              simp only [updT, go_sem] at ht
              subst ht
              obtain ⟨m1, m2, m3⟩ := hF
              refine AW.seq ?_
              have q5 : 0 ≤ e := by omega
              have t6 : (e < ((code.length + 1 : Nat) : Int)) = True := eq_true (by omega)
              have hre : (X.map boR)[e.toNat]? = some [.bool (fsB code code.length e)] := by rw [← fs_at h4 ⟨by omega, m2⟩]; exact bo_at ⟨by omega, by omega⟩
              refine AW.regR rfl (by simp (maxSteps := 1000000) only [go_sem, Int.one_mul, List.map_append, List.map_cons, List.map_nil, List.length_append, List.length_cons, List.length_nil, hw1, g1, g2, g3, g4, g6, hz0, q3, q4, t5, hwq, hlx, hrf, q5, t6, hre] <;> exact rfl) (by first | (simp (disch := omega) only [go_sem, w64, wU, Int.one_mul, List.map_append, List.map_cons, List.map_nil, List.length_append, List.length_cons, List.length_nil, hw1, g1, g2, g3, g4, g6, hz0, q3, q4, t5, hwq, hlx, hrf, q5, t6, hre] <;> exact rfl) | exact rfl) ?_
              refine AW.cond (by simp (maxSteps := 1000000) only [go_sem, Int.one_mul, List.map_append, List.map_cons, List.map_nil, List.length_append, List.length_cons, List.length_nil, hw1, g1, g2, g3, g4, g6, hz0, q3, q4, t5, hwq, hlx, hrf, q5, t6, hre] <;> exact rfl) (fun hc7 => ?_) (fun hc7 => ?_)
              · skip
                have hwe : IntKind.i64.wrap (e + 1) = e + 1 := w64 (by omega) (by omega)
                have hce : e < (code.length : Int) ∧ fsB code code.length e = false := by simpa using hc7
                refine AW.skip ?_
                show AW _ _ _ _ _
                refine AW.block ?_
                refine AW.regR1 rfl (by simp (maxSteps := 1000000) only [go_sem, Int.one_mul, List.map_append, List.map_cons, List.map_nil, List.length_append, List.length_cons, List.length_nil, hw1, g1, g2, g3, g4, g6, hz0, q3, q4, t5, hwq, hlx, hrf, q5, t6, hre, hwe, hce] <;> exact rfl) (by first | (simp (disch := omega) only [go_sem, w64, wU, Int.one_mul, List.map_append, List.map_cons, List.map_nil, List.length_append, List.length_cons, List.length_nil, hw1, g1, g2, g3, g4, g6, hz0, q3, q4, t5, hwq, hlx, hrf, q5, t6, hre, hwe, hce] <;> exact rfl) | exact rfl) ?_
                refine ⟨(e + 1), ?_, ?_, ?_⟩
                · (try dsimp only); omega
                · exact ⟨by omega, by omega, fun k a b => if q : k < e then m3 k a q else (by rw [show k = e by omega]; exact hce.2)⟩
                · refine Wk.sub ?_
                  simp (maxSteps := 1000000) (disch := omega) only [go_sem, w64, wU, Int.one_mul, List.map_append, List.map_cons, List.map_nil, List.length_append, List.length_cons, List.length_nil, hw1, g1, g2, g3, g4, g6, hz0, q3, q4, t5, hwq, hlx, hrf, q5, t6, hre, hwe, hce]
              · skip
                refine AW.exit ?_
                show AW _ _ _ _ _
                have hfw := k3.few
                have u1 : ((L.length + 1) * 16 ≤ 140737488355328) = True := eq_true (by omega)
                have u2 : (L.length + 1 ≤ 140737488355328) = True := eq_true (by omega)
                refine AW.regR1 rfl (by simp (maxSteps := 1000000) only [go_sem, Int.one_mul, List.map_append, List.map_cons, List.map_nil, List.length_append, List.length_cons, List.length_nil, hw1, g1, g2, g3, g4, g6, hz0, q3, q4, t5, hwq, hlx, hrf, q5, t6, hre, hfw, u1, u2] <;> exact rfl) (by first | (simp (disch := omega) only [go_sem, w64, wU, Int.one_mul, List.map_append, List.map_cons, List.map_nil, List.length_append, List.length_cons, List.length_nil, hw1, g1, g2, g3, g4, g6, hz0, q3, q4, t5, hwq, hlx, hrf, q5, t6, hre, hfw, u1, u2] <;> exact rfl) | exact rfl) ?_
                show AW _ _ _ _ _
                refine AW.regR1 rfl (by simp (maxSteps := 1000000) only [go_sem, Int.one_mul, List.map_append, List.map_cons, List.map_nil, List.length_append, List.length_cons, List.length_nil, hw1, g1, g2, g3, g4, g6, hz0, q3, q4, t5, hwq, hlx, hrf, q5, t6, hre, hfw, u1, u2] <;> exact rfl) (by first | (simp (disch := omega) only [go_sem, w64, wU, Int.one_mul, List.map_append, List.map_cons, List.map_nil, List.length_append, List.length_cons, List.length_nil, hw1, g1, g2, g3, g4, g6, hz0, q3, q4, t5, hwq, hlx, hrf, q5, t6, hre, hfw, u1, u2] <;> exact rfl) | exact rfl) ?_
                refine ⟨(L ++ [(p, e)], p + 1), ?_, ?_, ?_⟩
                · (try dsimp only); omega
                · exact ⟨by omega, by omega, k3.yes (by simpa using hc6) m1 m2 m3 (by simp at hc7; exact (Classical.em (e < (code.length : Int))).elim (fun q => .inr (hc7 q)) (fun q => .inl q))⟩
                · refine Wk.to [] [0, 2] hz (by decide) ?_ ?_
                  · simp (maxSteps := 1000000) (disch := omega) only [go_sem, w64, wU, Int.one_mul, List.map_append, List.map_cons, List.map_nil, List.length_append, List.length_cons, List.length_nil, hw1, g1, g2, g3, g4, g6, hz0, q3, q4, t5, hwq, hlx, hrf, q5, t6, hre, hfw, u1, u2]
                  · simp (maxSteps := 1000000) (disch := omega) only [go_sem, w64, wU, Int.one_mul, List.map_append, List.map_cons, List.map_nil, List.length_append, List.length_cons, List.length_nil, hw1, g1, g2, g3, g4, g6, hz0, q3, q4, t5, hwq, hlx, hrf, q5, t6, hre, hfw, u1, u2]
        · try simp only [decide_eq_true_eq, decide_eq_false_iff_not, Bool.or_eq_true, Bool.or_eq_false_iff, Bool.and_eq_true, Bool.and_eq_false_imp, Bool.not_eq_true', Bool.not_eq_false'] at hc5
          refine AW.exit ?_
          show AW _ _ _ _ _
          refine AW.regR rfl (by simp (maxSteps := 1000000) only [go_sem, Int.one_mul, List.map_append, List.map_cons, List.map_nil, List.length_append, List.length_cons, List.length_nil, hw1, g1, g2, g3, g4, g6, hz0] <;> exact rfl) (by first | (simp (disch := omega) only [go_sem, w64, wU, Int.one_mul, List.map_append, List.map_cons, List.map_nil, List.length_append, List.length_cons, List.length_nil, hw1, g1, g2, g3, g4, g6, hz0] <;> exact rfl) | exact rfl) ?_
          refine retK.fin rfl (by simp (maxSteps := 1000000) only [go_sem, Int.one_mul, List.map_append, List.map_cons, List.map_nil, List.length_append, List.length_cons, List.length_nil, hw1, g1, g2, g3, g4, g6, hz0] <;> exact rfl) (by simp (maxSteps := 1000000) only [go_sem, Int.one_mul, List.map_append, List.map_cons, List.map_nil, List.length_append, List.length_cons, List.length_nil, hw1, g1, g2, g3, g4, g6, hz0] <;> exact rfl) (.of ?_)
          have := k3.done hc5
          subst this
          exact congrArg (PV.lst false 2) (List.take_of_length_le (by simp))
end Go.Ab.Try
