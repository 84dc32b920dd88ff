/- Registers that play a part: a round. -/
import Derived.Test.YtlgfbiepbneihaaLvH
import Derived.Test.YtlgfbiepbneihaaLX
import Derived.Test.YtlgfbiepbneihaaDH
namespace Go.Ab.Try
open Go.Proofs Go.Ab
set_option linter.unusedVariables false
set_option linter.unusedSimpArgs false
set_option linter.unnecessarySimpa false
set_option maxRecDepth 100000
theorem c65 (code : List Ins) (all : List B8) (pc : Int) (hc : OkC code) (hL : code.length ≤ 100) (hp : 0 ≤ pc ∧ pc < (code.length : Int)) (ha : all.length = code.length + 1) : PC Try.prog 65 [.lst false 5 (code.map inR), .lst false 8 (all.map bR), .int .i64 pc] (.agg (bR (oneS code all pc))) := by
  refine PC.start 58 Try.call65 Try.func65 rfl Try.ntmps65 Try.results65 (by simp only [go_sem]; exact rfl) fun z hz => ?_
  refine AW.regR rfl (by simp (maxSteps := 1000000) only [go_sem] <;> exact rfl) (by first | (simp (disch := omega) only [go_sem, w64, wU] <;> exact rfl) | exact rfl) ?_
  obtain ⟨⟨op, a, b, c, m⟩, hI⟩ : ∃ i, code.getD pc.toNat i0 = i := ⟨_, rfl⟩
  obtain ⟨p0, p1⟩ := hp
  have hU : usesI code pc = usesS op a b c := by unfold usesI; rw [hI]
  have hS : setsI code pc = setsS op a b c := by unfold setsI; rw [hI]
  have q0 : 0 ≤ pc := p0
  have q1 : pc < (code.length : Int) := p1
  have hr : (code.map inR)[pc.toNat]? = some [.int .i64 op, .int .i64 a, .int .i64 b, .int .i64 c, .int .u64 m] := by have := in_at (l := code) (j := pc) ⟨p0, p1⟩; rw [hI] at this; exact this
  refine AW.regS rfl ?_
  refine ARN.run1 (by simp (maxSteps := 1000000) only [go_sem, q0, q1, hr] <;> exact rfl) ?_
  refine ARN.pcall (fun hp => c31 op a b c m) rfl (by simp (maxSteps := 1000000) only [go_sem, q0, q1, hr] <;> exact rfl) (by simp only [go_sem]) (by simp (maxSteps := 1000000) only [go_sem, q0, q1, hr] <;> exact rfl) ?_
  refine ARN.run1 (by simp (maxSteps := 1000000) only [go_sem, q0, q1, hr] <;> exact rfl) ?_
  refine ARN.fin (by first | (simp (disch := omega) only [go_sem, w64, wU, q0, q1, hr] <;> exact rfl) | exact rfl) ?_
  refine AW.regS rfl ?_
  refine ARN.run1 (by simp (maxSteps := 1000000) only [go_sem, q0, q1, hr] <;> exact rfl) ?_
  refine ARN.pcall (fun hp => c33 op a b c m) rfl (by simp (maxSteps := 1000000) only [go_sem, q0, q1, hr] <;> exact rfl) (by simp only [go_sem]) (by simp (maxSteps := 1000000) only [go_sem, q0, q1, hr] <;> exact rfl) ?_
  refine ARN.run1 (by simp (maxSteps := 1000000) only [go_sem, q0, q1, hr] <;> exact rfl) ?_
  refine ARN.fin (by first | (simp (disch := omega) only [go_sem, w64, wU, q0, q1, hr] <;> exact rfl) | exact rfl) ?_
  refine AW.regS rfl ?_
  refine ARN.run1 (by simp (maxSteps := 1000000) only [go_sem, q0, q1, hr] <;> exact rfl) ?_
  refine ARN.pcall (fun hp => c16 code pc hc hL) rfl (by simp (maxSteps := 1000000) only [go_sem, q0, q1, hr] <;> exact rfl) (by simp only [go_sem]) (by simp (maxSteps := 1000000) only [go_sem, q0, q1, hr] <;> exact rfl) ?_
  refine ARN.run1 (by simp (maxSteps := 1000000) only [go_sem, q0, q1, hr] <;> exact rfl) ?_
  refine ARN.fin (by first | (simp (disch := omega) only [go_sem, w64, wU, q0, q1, hr] <;> exact rfl) | exact rfl) ?_
  refine AW.seq ?_
  refine AW.regR rfl (by simp (maxSteps := 1000000) only [go_sem, q0, q1, hr] <;> exact rfl) (by first | (simp (disch := omega) only [go_sem, w64, wU, q0, q1, hr] <;> exact rfl) | exact rfl) ?_
  refine AW.block ?_
  refine AW.loopV (α := (Int) × (B8)) (fun ((k, o) : (Int) × (B8)) => [(10, .pv (.int .i64 k))]) (fun ((k, o) : (Int) × (B8)) => [.box bZ, .box (bA o), .box (bA (setsS op a b c))]) (fun ((k, o) : (Int) × (B8)) => (0 ≤ k) ∧ (k ≤ ((nextS code pc).length : Int)) ∧ (o = pOne code all pc k.toNat)) (fun ((k, o) : (Int) × (B8)) => (((nextS code pc).length : Int) - k).toNat) (0, usesS op a b c) ?_ ?_ ?_
  · exact ⟨by omega, by omega, by rw [← hU]; exact pOne_0.symm⟩
  · refine Wk.to [] [0, 1, 2] hz (by decide) ?_ ?_
    · simp (maxSteps := 1000000) (disch := omega) only [go_sem, w64, wU, q0, q1, hr]
    · simp (maxSteps := 1000000) (disch := omega) only [go_sem, w64, wU, q0, q1, hr]
  · rintro ⟨k, o⟩ hF _ ht _ hh
    simp only [updT, go_sem] at ht hh
    subst ht; subst hh
    obtain ⟨h1, h2, h3⟩ := hF
    refine AW.seq ?_
    refine AW.regR rfl (by simp (maxSteps := 1000000) only [go_sem, q0, q1, hr] <;> exact rfl) (by first | (simp (disch := omega) only [go_sem, w64, wU, q0, q1, hr] <;> exact rfl) | exact rfl) ?_
    refine AW.cond (by simp (maxSteps := 1000000) only [go_sem, q0, q1, hr] <;> exact rfl) (fun hc1 => ?_) (fun hc1 => ?_)
    · try simp only [decide_eq_true_eq, decide_eq_false_iff_not, Bool.or_eq_true, Bool.or_eq_false_iff, Bool.and_eq_true, Bool.and_eq_false_imp, Bool.not_eq_true', Bool.not_eq_false'] at hc1
      have hN : code.length < 65536 := by omega
      have hmem : (nextS code pc).getD k.toNat 0 ∈ nextS code pc := getD_mem (by omega)
      have hto : 0 ≤ (nextS code pc).getD k.toNat 0 ∧ (nextS code pc).getD k.toNat 0 ≤ code.length := next_in hc hN hmem
      have t0 : 0 ≤ (nextS code pc).getD k.toNat 0 := hto.1
      have t1 : (nextS code pc).getD k.toNat 0 < (all.length : Int) := by have := hto.2; omega
      have g1 : 0 ≤ k := h1
      have g2 : k < ((nextS code pc).length : Int) := hc1
      have hrk : ((nextS code pc).map nR)[k.toNat]? = some [.int .i64 ((nextS code pc).getD k.toNat 0)] := n_at ⟨h1, hc1⟩
      have hra : (all.map bR)[((nextS code pc).getD k.toNat 0).toNat]? = some (bR (all.getD ((nextS code pc).getD k.toNat 0).toNat noB)) := b_at ⟨t0, t1⟩
      have hkw : IntKind.i64.wrap (k + 1) = k + 1 := by have := next_len code pc; exact w64 (by omega) (by omega)
      refine AW.skip ?_
      show AW _ _ _ _ _
      refine AW.seq ?_
      refine AW.block ?_
      refine AW.regR rfl (by simp (maxSteps := 1000000) only [go_sem, q0, q1, hr, hN, hmem, hto, t0, t1, g1, g2, hrk, hra, hkw] <;> exact rfl) (by first | (simp (disch := omega) only [go_sem, w64, wU, q0, q1, hr, hN, hmem, hto, t0, t1, g1, g2, hrk, hra, hkw] <;> exact rfl) | exact rfl) ?_
      refine AW.block ?_
      refine AW.loopV (α := (Int) × (B8)) (fun ((r, o2) : (Int) × (B8)) => [(11, .pv (.int .i64 r))]) (fun ((r, o2) : (Int) × (B8)) => [.box bZ, .box (bA o2), .box (bA (setsS op a b c))]) (fun ((r, o2) : (Int) × (B8)) => (0 ≤ r) ∧ (r ≤ 8) ∧ (Inn code all pc k.toNat o2 r)) (fun ((r, o2) : (Int) × (B8)) => (8 - r).toNat) (0, o) ?_ ?_ ?_
      · exact ⟨by omega, by omega, by rw [h3]; exact inn_0⟩
      · refine Wk.to [] [0, 1, 2] hz (by decide) ?_ ?_
        · simp (maxSteps := 1000000) (disch := omega) only [go_sem, w64, wU, q0, q1, hr, hN, hmem, hto, t0, t1, g1, g2, hrk, hra, hkw]
        · simp (maxSteps := 1000000) (disch := omega) only [go_sem, w64, wU, q0, q1, hr, hN, hmem, hto, t0, t1, g1, g2, hrk, hra, hkw]
      · rintro ⟨r, o2⟩ hF _ ht _ hh
        simp only [updT, go_sem] at ht hh
        subst ht; subst hh
        obtain ⟨j1, j2, j3⟩ := hF
        refine AW.seq ?_
        refine AW.regR rfl (by simp (maxSteps := 1000000) only [go_sem, q0, q1, hr, hN, hmem, hto, t0, t1, g1, g2, hrk, hra, hkw] <;> exact rfl) (by first | (simp (disch := omega) only [go_sem, w64, wU, q0, q1, hr, hN, hmem, hto, t0, t1, g1, g2, hrk, hra, hkw] <;> exact rfl) | exact rfl) ?_
        refine AW.cond (by simp (maxSteps := 1000000) only [go_sem, q0, q1, hr, hN, hmem, hto, t0, t1, g1, g2, hrk, hra, hkw] <;> exact rfl) (fun hc2 => ?_) (fun hc2 => ?_)
        · try simp only [decide_eq_true_eq, decide_eq_false_iff_not, Bool.or_eq_true, Bool.or_eq_false_iff, Bool.and_eq_true, Bool.and_eq_false_imp, Bool.not_eq_true', Bool.not_eq_false'] at hc2
          have hir : InR8 r := ⟨j1, hc2⟩
          refine AW.skip ?_
          show AW _ _ _ _ _
          refine AW.seq ?_
          refine AW.block ?_
          refine AW.reg rfl ?_
          refine ARN.run1 (by simp (maxSteps := 1000000) only [go_sem, q0, q1, hr, hN, hmem, hto, t0, t1, g1, g2, hrk, hra, hkw, hir] <;> exact rfl) ?_
          refine ARN.elx rfl (by simp (maxSteps := 1000000) only [go_sem, q0, q1, hr, hN, hmem, hto, t0, t1, g1, g2, hrk, hra, hkw, hir] <;> exact rfl) (by simp (maxSteps := 1000000) only [go_sem, q0, q1, hr, hN, hmem, hto, t0, t1, g1, g2, hrk, hra, hkw, hir] <;> exact rfl) (by simp (maxSteps := 1000000) only [go_sem, q0, q1, hr, hN, hmem, hto, t0, t1, g1, g2, hrk, hra, hkw, hir] <;> exact rfl) (by simp (maxSteps := 1000000) only [go_sem, q0, q1, hr, hN, hmem, hto, t0, t1, g1, g2, hrk, hra, hkw, hir] <;> exact rfl) (by simp (maxSteps := 1000000) only [go_sem, q0, q1, hr, hN, hmem, hto, t0, t1, g1, g2, hrk, hra, hkw, hir] <;> exact rfl) ⟨hir.1, hir.2⟩ (by decide) (by simp (maxSteps := 1000000) only [go_sem, q0, q1, hr, hN, hmem, hto, t0, t1, g1, g2, hrk, hra, hkw, hir] <;> exact rfl) ?_
          refine ARN.run1 (by simp (maxSteps := 1000000) only [go_sem, q0, q1, hr, hN, hmem, hto, t0, t1, g1, g2, hrk, hra, hkw, hir] <;> exact rfl) ?_
          refine ARN.fin1 (by first | (simp (disch := omega) only [go_sem, w64, wU, q0, q1, hr, hN, hmem, hto, t0, t1, g1, g2, hrk, hra, hkw, hir] <;> exact rfl) | exact rfl) ?_
          show AW _ _ _ _ _
          refine AW.regR1 rfl (by simp (maxSteps := 1000000) only [go_sem, q0, q1, hr, hN, hmem, hto, t0, t1, g1, g2, hrk, hra, hkw, hir] <;> exact rfl) (by first | (simp (disch := omega) only [go_sem, w64, wU, q0, q1, hr, hN, hmem, hto, t0, t1, g1, g2, hrk, hra, hkw, hir] <;> exact rfl) | exact rfl) ?_
          refine ⟨((r + 1), o2.put r (o2.get r || ((all.getD ((nextS code pc).getD k.toNat 0).toNat noB).get r && !(setsS op a b c).get r))), ?_, ?_, ?_⟩
          · (try dsimp only); omega
          · exact ⟨by omega, by omega, inn_put j3 (by omega) hir (by rw [hS])⟩
          · refine Wk.to [] [0, 1, 2] hz (by decide) ?_ ?_
            · simp (maxSteps := 1000000) (disch := omega) only [go_sem, w64, wU, q0, q1, hr, hN, hmem, hto, t0, t1, g1, g2, hrk, hra, hkw, hir]
            · simp (maxSteps := 1000000) (disch := omega) only [go_sem, w64, wU, q0, q1, hr, hN, hmem, hto, t0, t1, g1, g2, hrk, hra, hkw, hir]
        · try simp only [decide_eq_true_eq, decide_eq_false_iff_not, Bool.or_eq_true, Bool.or_eq_false_iff, Bool.and_eq_true, Bool.and_eq_false_imp, Bool.not_eq_true', Bool.not_eq_false'] at hc2
          refine AW.exit ?_
          show AW _ _ _ _ _
          refine AW.regR1 rfl (by simp (maxSteps := 1000000) only [go_sem, q0, q1, hr, hN, hmem, hto, t0, t1, g1, g2, hrk, hra, hkw] <;> exact rfl) (by first | (simp (disch := omega) only [go_sem, w64, wU, q0, q1, hr, hN, hmem, hto, t0, t1, g1, g2, hrk, hra, hkw] <;> exact rfl) | exact rfl) ?_
          refine ⟨((k + 1), o2), ?_, ?_, ?_⟩
          · (try dsimp only); omega
          · exact ⟨by omega, by omega, by rw [show (k + 1).toNat = k.toNat + 1 by omega]; exact inn_8 j3 (by omega)⟩
          · refine Wk.to [] [0, 1, 2] hz (by decide) ?_ ?_
            · simp (maxSteps := 1000000) (disch := omega) only [go_sem, w64, wU, q0, q1, hr, hN, hmem, hto, t0, t1, g1, g2, hrk, hra, hkw]
            · simp (maxSteps := 1000000) (disch := omega) only [go_sem, w64, wU, q0, q1, hr, hN, hmem, hto, t0, t1, g1, g2, hrk, hra, hkw]
    · try simp only [decide_eq_true_eq, decide_eq_false_iff_not, Bool.or_eq_true, Bool.or_eq_false_iff, Bool.and_eq_true, Bool.and_eq_false_imp, Bool.not_eq_true', Bool.not_eq_false'] at hc1
      refine AW.exit ?_
      show AW _ _ _ _ _
      refine AW.regR rfl (by simp (maxSteps := 1000000) only [go_sem, q0, q1, hr] <;> exact rfl) (by first | (simp (disch := omega) only [go_sem, w64, wU, q0, q1, hr] <;> exact rfl) | exact rfl) ?_
      refine retK.fin rfl (by simp (maxSteps := 1000000) only [go_sem, q0, q1, hr] <;> exact rfl) (by simp (maxSteps := 1000000) only [go_sem, q0, q1, hr] <;> exact rfl) (.of ?_)
      rw [← pOne_all, show (nextS code pc).length = k.toNat by omega, ← h3]; rfl
theorem c64 (code : List Ins) (all : List B8) (pc : Int) (hc : OkC code) (hL : code.length ≤ 100) (hp : 0 ≤ pc ∧ pc < (code.length : Int)) (ha : all.length = code.length + 1) : PC Try.prog 64 [.lst false 5 (code.map inR), .lst false 8 (all.map bR), .int .i64 pc] (.agg (bR (oneS code all pc))) := by
  refine PC.start 51 Try.call64 Try.func64 rfl Try.ntmps64 Try.results64 (by simp only [go_sem]; exact rfl) fun z hz => ?_
  refine AW.regR rfl (by simp (maxSteps := 1000000) only [go_sem] <;> exact rfl) (by first | (simp (disch := omega) only [go_sem, w64, wU] <;> exact rfl) | exact rfl) ?_
  obtain ⟨⟨op, a, b, c, m⟩, hI⟩ : ∃ i, code.getD pc.toNat i0 = i := ⟨_, rfl⟩
  obtain ⟨p0, p1⟩ := hp
  have hU : usesI code pc = usesS op a b c := by unfold usesI; rw [hI]
  have hS : setsI code pc = setsS op a b c := by unfold setsI; rw [hI]
  have q0 : 0 ≤ pc := p0
  have q1 : pc < (code.length : Int) := p1
  have hr : (code.map inR)[pc.toNat]? = some [.int .i64 op, .int .i64 a, .int .i64 b, .int .i64 c, .int .u64 m] := by have := in_at (l := code) (j := pc) ⟨p0, p1⟩; rw [hI] at this; exact this
  refine AW.regDS follows (by kernel_rfl) ?_
  refine ARE.run1 (by simp (maxSteps := 1000000) only [go_sem, q0, q1, hr] <;> exact rfl) ?_
  refine ARE.pcall (fun hp => c30 op a b c m) rfl (by simp (maxSteps := 1000000) only [go_sem, q0, q1, hr] <;> exact rfl) (by simp only [go_sem]) (by simp (maxSteps := 1000000) only [go_sem, q0, q1, hr] <;> exact rfl) ?_
  refine ARE.run1 (by simp (maxSteps := 1000000) only [go_sem, q0, q1, hr] <;> exact rfl) ?_
  refine ARE.pcall (fun hp => c32 op a b c m) rfl (by simp (maxSteps := 1000000) only [go_sem, q0, q1, hr] <;> exact rfl) (by simp only [go_sem]) (by simp (maxSteps := 1000000) only [go_sem, q0, q1, hr] <;> exact rfl) ?_
  refine ARE.run1 (by simp (maxSteps := 1000000) only [go_sem, q0, q1, hr] <;> exact rfl) ?_
  refine ARE.fin [0, 0, 3, 7, 15, 0, 0, 96, 224, 511, 0, 0, 4095, 8191] _ (by kernel_rfl) (by simp (maxSteps := 1000000) only [go_sem, q0, q1, hr] <;> exact rfl) (by kernel_rfl) (by first | (simp (disch := omega) only [go_sem, w64, wU, q0, q1, hr] <;> exact rfl) | exact rfl) ?_
  refine AW.seq ?_
  refine AW.regS rfl ?_
  refine ARN.run1 (by simp (maxSteps := 1000000) only [go_sem, q0, q1, hr] <;> exact rfl) ?_
  refine ARN.pcall (fun hp => c15 code pc hc hL) rfl (by simp (maxSteps := 1000000) only [go_sem, q0, q1, hr] <;> exact rfl) (by simp only [go_sem]) (by simp (maxSteps := 1000000) only [go_sem, q0, q1, hr] <;> exact rfl) ?_
  refine ARN.run1 (by simp (maxSteps := 1000000) only [go_sem, q0, q1, hr] <;> exact rfl) ?_
  refine ARN.fin (by first | (simp (disch := omega) only [go_sem, w64, wU, q0, q1, hr] <;> exact rfl) | exact rfl) ?_
  refine AW.block ?_
  refine AW.loopV (α := (Int) × (B8)) (fun ((k, o) : (Int) × (B8)) => [(27, .pv (.int .i64 k))]) (fun ((k, o) : (Int) × (B8)) => [.box bZ, .box (bA o), .box (bA (setsS op a b c))]) (fun ((k, o) : (Int) × (B8)) => (0 ≤ k) ∧ (k ≤ ((nextS code pc).length : Int)) ∧ (o = pOne code all pc k.toNat)) (fun ((k, o) : (Int) × (B8)) => (((nextS code pc).length : Int) - k).toNat) (0, usesS op a b c) ?_ ?_ ?_
  · exact ⟨by omega, by omega, by rw [← hU]; exact pOne_0.symm⟩
  · refine Wk.to [] [0, 1, 2] hz (by decide) ?_ ?_
    · simp (maxSteps := 1000000) (disch := omega) only [go_sem, w64, wU, q0, q1, hr]
    · simp (maxSteps := 1000000) (disch := omega) only [go_sem, w64, wU, q0, q1, hr]
  · rintro ⟨k, o⟩ hF _ ht _ hh
    simp only [updT, go_sem] at ht hh
    subst ht; subst hh
    obtain ⟨h1, h2, h3⟩ := hF
    refine AW.regR rfl (by simp (maxSteps := 1000000) only [go_sem, q0, q1, hr] <;> exact rfl) (by first | (simp (disch := omega) only [go_sem, w64, wU, q0, q1, hr] <;> exact rfl) | exact rfl) ?_
    refine AW.seq ?_
    refine AW.cond (by simp (maxSteps := 1000000) only [go_sem, q0, q1, hr] <;> exact rfl) (fun hc1 => ?_) (fun hc1 => ?_)
    · try simp only [decide_eq_true_eq, decide_eq_false_iff_not, Bool.or_eq_true, Bool.or_eq_false_iff, Bool.and_eq_true, Bool.and_eq_false_imp, Bool.not_eq_true', Bool.not_eq_false'] at hc1
      have hN : code.length < 65536 := by omega
      have hmem : (nextS code pc).getD k.toNat 0 ∈ nextS code pc := getD_mem (by omega)
      have hto : 0 ≤ (nextS code pc).getD k.toNat 0 ∧ (nextS code pc).getD k.toNat 0 ≤ code.length := next_in hc hN hmem
      have t0 : 0 ≤ (nextS code pc).getD k.toNat 0 := hto.1
      have t1 : (nextS code pc).getD k.toNat 0 < (all.length : Int) := by have := hto.2; omega
      have g1 : 0 ≤ k := h1
      have g2 : k < ((nextS code pc).length : Int) := hc1
      have hrk : ((nextS code pc).map nR)[k.toNat]? = some [.int .i64 ((nextS code pc).getD k.toNat 0)] := n_at ⟨h1, hc1⟩
      have hra : (all.map bR)[((nextS code pc).getD k.toNat 0).toNat]? = some (bR (all.getD ((nextS code pc).getD k.toNat 0).toNat noB)) := b_at ⟨t0, t1⟩
      have hkw : IntKind.i64.wrap (k + 1) = k + 1 := by have := next_len code pc; exact w64 (by omega) (by omega)
      refine AW.skip ?_
      show AW _ _ _ _ _
      refine AW.seq ?_
      refine AW.block ?_
      refine AW.regR rfl (by simp (maxSteps := 1000000) only [go_sem, q0, q1, hr, hN, hmem, hto, t0, t1, g1, g2, hrk, hra, hkw] <;> exact rfl) (by first | (simp (disch := omega) only [go_sem, w64, wU, q0, q1, hr, hN, hmem, hto, t0, t1, g1, g2, hrk, hra, hkw] <;> exact rfl) | exact rfl) ?_
      refine AW.regR rfl (by simp (maxSteps := 1000000) only [go_sem, q0, q1, hr, hN, hmem, hto, t0, t1, g1, g2, hrk, hra, hkw] <;> exact rfl) (by first | (simp (disch := omega) only [go_sem, w64, wU, q0, q1, hr, hN, hmem, hto, t0, t1, g1, g2, hrk, hra, hkw] <;> exact rfl) | exact rfl) ?_
      refine AW.block ?_
      refine AW.loopV (α := (Int) × (B8)) (fun ((r, o2) : (Int) × (B8)) => [(35, .pv (.int .i64 r))]) (fun ((r, o2) : (Int) × (B8)) => [.box bZ, .box (bA o2), .box (bA (setsS op a b c))]) (fun ((r, o2) : (Int) × (B8)) => (0 ≤ r) ∧ (r ≤ 8) ∧ (Inn code all pc k.toNat o2 r)) (fun ((r, o2) : (Int) × (B8)) => (8 - r).toNat) (0, o) ?_ ?_ ?_
      · exact ⟨by omega, by omega, by rw [h3]; exact inn_0⟩
      · refine Wk.to [] [0, 1, 2] hz (by decide) ?_ ?_
        · simp (maxSteps := 1000000) (disch := omega) only [go_sem, w64, wU, q0, q1, hr, hN, hmem, hto, t0, t1, g1, g2, hrk, hra, hkw]
        · simp (maxSteps := 1000000) (disch := omega) only [go_sem, w64, wU, q0, q1, hr, hN, hmem, hto, t0, t1, g1, g2, hrk, hra, hkw]
      · rintro ⟨r, o2⟩ hF _ ht _ hh
        simp only [updT, go_sem] at ht hh
        subst ht; subst hh
        obtain ⟨j1, j2, j3⟩ := hF
        refine AW.regR rfl (by simp (maxSteps := 1000000) only [go_sem, q0, q1, hr, hN, hmem, hto, t0, t1, g1, g2, hrk, hra, hkw] <;> exact rfl) (by first | (simp (disch := omega) only [go_sem, w64, wU, q0, q1, hr, hN, hmem, hto, t0, t1, g1, g2, hrk, hra, hkw] <;> exact rfl) | exact rfl) ?_
        refine AW.seq ?_
        refine AW.cond (by simp (maxSteps := 1000000) only [go_sem, q0, q1, hr, hN, hmem, hto, t0, t1, g1, g2, hrk, hra, hkw] <;> exact rfl) (fun hc2 => ?_) (fun hc2 => ?_)
        · try simp only [decide_eq_true_eq, decide_eq_false_iff_not, Bool.or_eq_true, Bool.or_eq_false_iff, Bool.and_eq_true, Bool.and_eq_false_imp, Bool.not_eq_true', Bool.not_eq_false'] at hc2
          have hir : InR8 r := ⟨j1, hc2⟩
          refine AW.skip ?_
          show AW _ _ _ _ _
          refine AW.seq ?_
          refine AW.block ?_
          refine AW.regR rfl (by simp (maxSteps := 1000000) only [go_sem, q0, q1, hr, hN, hmem, hto, t0, t1, g1, g2, hrk, hra, hkw, hir] <;> exact rfl) (by first | (simp (disch := omega) only [go_sem, w64, wU, q0, q1, hr, hN, hmem, hto, t0, t1, g1, g2, hrk, hra, hkw, hir] <;> exact rfl) | exact rfl) ?_
          refine AW.regR rfl (by simp (maxSteps := 1000000) only [go_sem, q0, q1, hr, hN, hmem, hto, t0, t1, g1, g2, hrk, hra, hkw, hir] <;> exact rfl) (by first | (simp (disch := omega) only [go_sem, w64, wU, q0, q1, hr, hN, hmem, hto, t0, t1, g1, g2, hrk, hra, hkw, hir] <;> exact rfl) | exact rfl) ?_
          refine AW.cond (by simp (maxSteps := 1000000) only [go_sem, q0, q1, hr, hN, hmem, hto, t0, t1, g1, g2, hrk, hra, hkw, hir] <;> exact rfl) (fun hc3 => ?_) (fun hc3 => ?_)
          · try simp only [decide_eq_true_eq, decide_eq_false_iff_not, Bool.or_eq_true, Bool.or_eq_false_iff, Bool.and_eq_true, Bool.and_eq_false_imp, Bool.not_eq_true', Bool.not_eq_false'] at hc3
            refine AW.regR1 rfl (by simp (maxSteps := 1000000) only [go_sem, q0, q1, hr, hN, hmem, hto, t0, t1, g1, g2, hrk, hra, hkw, hir] <;> exact rfl) (by first | (simp (disch := omega) only [go_sem, w64, wU, q0, q1, hr, hN, hmem, hto, t0, t1, g1, g2, hrk, hra, hkw, hir] <;> exact rfl) | exact rfl) ?_
            show AW _ _ _ _ _
            refine AW.regR1 rfl (by simp (maxSteps := 1000000) only [go_sem, q0, q1, hr, hN, hmem, hto, t0, t1, g1, g2, hrk, hra, hkw, hir] <;> exact rfl) (by first | (simp (disch := omega) only [go_sem, w64, wU, q0, q1, hr, hN, hmem, hto, t0, t1, g1, g2, hrk, hra, hkw, hir] <;> exact rfl) | exact rfl) ?_
            refine ⟨((r + 1), o2.put r true), ?_, ?_, ?_⟩
            · (try dsimp only); omega
            · exact ⟨by omega, by omega, inn_t j3 (by omega) hir (by rw [hS]; simpa using hc3)⟩
            · refine Wk.to [] [0, 1, 2] hz (by decide) ?_ ?_
              · simp (maxSteps := 1000000) (disch := omega) only [go_sem, w64, wU, q0, q1, hr, hN, hmem, hto, t0, t1, g1, g2, hrk, hra, hkw, hir]
              · simp (maxSteps := 1000000) (disch := omega) only [go_sem, w64, wU, q0, q1, hr, hN, hmem, hto, t0, t1, g1, g2, hrk, hra, hkw, hir]
          · try simp only [decide_eq_true_eq, decide_eq_false_iff_not, Bool.or_eq_true, Bool.or_eq_false_iff, Bool.and_eq_true, Bool.and_eq_false_imp, Bool.not_eq_true', Bool.not_eq_false'] at hc3
            refine AW.skip ?_
            show AW _ _ _ _ _
            refine AW.regR1 rfl (by simp (maxSteps := 1000000) only [go_sem, q0, q1, hr, hN, hmem, hto, t0, t1, g1, g2, hrk, hra, hkw, hir] <;> exact rfl) (by first | (simp (disch := omega) only [go_sem, w64, wU, q0, q1, hr, hN, hmem, hto, t0, t1, g1, g2, hrk, hra, hkw, hir] <;> exact rfl) | exact rfl) ?_
            refine ⟨((r + 1), o2), ?_, ?_, ?_⟩
            · (try dsimp only); omega
            · exact ⟨by omega, by omega, inn_f j3 (by omega) hir (by rw [hS]; simpa using hc3)⟩
            · refine Wk.to [] [0, 1, 2] hz (by decide) ?_ ?_
              · simp (maxSteps := 1000000) (disch := omega) only [go_sem, w64, wU, q0, q1, hr, hN, hmem, hto, t0, t1, g1, g2, hrk, hra, hkw, hir]
              · simp (maxSteps := 1000000) (disch := omega) only [go_sem, w64, wU, q0, q1, hr, hN, hmem, hto, t0, t1, g1, g2, hrk, hra, hkw, hir]
        · try simp only [decide_eq_true_eq, decide_eq_false_iff_not, Bool.or_eq_true, Bool.or_eq_false_iff, Bool.and_eq_true, Bool.and_eq_false_imp, Bool.not_eq_true', Bool.not_eq_false'] at hc2
          refine AW.exit ?_
          show AW _ _ _ _ _
          refine AW.regR1 rfl (by simp (maxSteps := 1000000) only [go_sem, q0, q1, hr, hN, hmem, hto, t0, t1, g1, g2, hrk, hra, hkw] <;> exact rfl) (by first | (simp (disch := omega) only [go_sem, w64, wU, q0, q1, hr, hN, hmem, hto, t0, t1, g1, g2, hrk, hra, hkw] <;> exact rfl) | exact rfl) ?_
          refine ⟨((k + 1), o2), ?_, ?_, ?_⟩
          · (try dsimp only); omega
          · exact ⟨by omega, by omega, by rw [show (k + 1).toNat = k.toNat + 1 by omega]; exact inn_8 j3 (by omega)⟩
          · refine Wk.to [] [0, 1, 2] hz (by decide) ?_ ?_
            · simp (maxSteps := 1000000) (disch := omega) only [go_sem, w64, wU, q0, q1, hr, hN, hmem, hto, t0, t1, g1, g2, hrk, hra, hkw]
            · simp (maxSteps := 1000000) (disch := omega) only [go_sem, w64, wU, q0, q1, hr, hN, hmem, hto, t0, t1, g1, g2, hrk, hra, hkw]
    · try simp only [decide_eq_true_eq, decide_eq_false_iff_not, Bool.or_eq_true, Bool.or_eq_false_iff, Bool.and_eq_true, Bool.and_eq_false_imp, Bool.not_eq_true', Bool.not_eq_false'] at hc1
      refine AW.exit ?_
      show AW _ _ _ _ _
      refine AW.regR rfl (by simp (maxSteps := 1000000) only [go_sem, q0, q1, hr] <;> exact rfl) (by first | (simp (disch := omega) only [go_sem, w64, wU, q0, q1, hr] <;> exact rfl) | exact rfl) ?_
      refine retK.fin rfl (by simp (maxSteps := 1000000) only [go_sem, q0, q1, hr] <;> exact rfl) (by simp (maxSteps := 1000000) only [go_sem, q0, q1, hr] <;> exact rfl) (.of ?_)
      rw [← pOne_all, show (nextS code pc).length = k.toNat by omega, ← h3]; rfl
theorem c34 (a b : List B8) (ha : (a.length : Int) ≤ 9223372036854775807) (hb : (b.length : Int) ≤ 9223372036854775807) : PC Try.prog 34 [.lst false 8 (a.map bR), .lst false 8 (b.map bR)] (.bool (decide (a = b))) := by
  refine PC.start 26 Try.call34 Try.func34 rfl Try.ntmps34 Try.results34 (by simp only [go_sem]; exact rfl) fun z hz => ?_
  refine AW.regR rfl (by simp (maxSteps := 1000000) only [go_sem] <;> exact rfl) (by first | (simp (disch := omega) only [go_sem, w64, wU] <;> exact rfl) | exact rfl) ?_
  refine AW.seq ?_
  refine AW.regR rfl (by simp (maxSteps := 1000000) only [go_sem] <;> exact rfl) (by first | (simp (disch := omega) only [go_sem, w64, wU] <;> exact rfl) | exact rfl) ?_
  refine AW.cond (by simp (maxSteps := 1000000) only [go_sem] <;> exact rfl) (fun hc1 => ?_) (fun hc1 => ?_)
  · try simp only [decide_eq_true_eq, decide_eq_false_iff_not, Bool.or_eq_true, Bool.or_eq_false_iff, Bool.and_eq_true, Bool.and_eq_false_imp, Bool.not_eq_true', Bool.not_eq_false'] at hc1
    refine AW.regR rfl (by simp (maxSteps := 1000000) only [go_sem] <;> exact rfl) (by first | (simp (disch := omega) only [go_sem, w64, wU] <;> exact rfl) | exact rfl) ?_
    refine retK.fin rfl (by simp (maxSteps := 1000000) only [go_sem] <;> exact rfl) (by simp (maxSteps := 1000000) only [go_sem] <;> exact rfl) (.of ?_)
    have : a ≠ b := fun e => by subst e; omega
    simp [this]
  · try simp only [decide_eq_true_eq, decide_eq_false_iff_not, Bool.or_eq_true, Bool.or_eq_false_iff, Bool.and_eq_true, Bool.and_eq_false_imp, Bool.not_eq_true', Bool.not_eq_false'] at hc1
    refine AW.skip ?_
    show AW _ _ _ _ _
    refine AW.seq ?_
    refine AW.regR rfl (by simp (maxSteps := 1000000) only [go_sem] <;> exact rfl) (by first | (simp (disch := omega) only [go_sem, w64, wU] <;> exact rfl) | exact rfl) ?_
    refine AW.block ?_
    refine AW.loopVh (α := (Int)) (fun (i : (Int)) => [(5, .pv (.int .i64 i))]) (fun (i : (Int)) => (0 ≤ i) ∧ (i ≤ (a.length : Int)) ∧ (∀ j : Nat, (j : Int) < i → a.getD j noB = b.getD j noB)) (fun (i : (Int)) => ((a.length : Int) - i).toNat) 0 ?_ ?_ ?_
    · exact ⟨by omega, by omega, fun j hj => by omega⟩
    · refine Wk.sub ?_
      simp (maxSteps := 1000000) (disch := omega) only [go_sem, w64, wU]
    · rintro i hF _ ht
      simp only [updT, go_sem] at ht
      subst ht
      obtain ⟨h1, h2, h3⟩ := hF
      refine AW.seq ?_
      refine AW.regR rfl (by simp (maxSteps := 1000000) only [go_sem] <;> exact rfl) (by first | (simp (disch := omega) only [go_sem, w64, wU] <;> exact rfl) | exact rfl) ?_
      refine AW.cond (by simp (maxSteps := 1000000) only [go_sem] <;> exact rfl) (fun hc2 => ?_) (fun hc2 => ?_)
      · try simp only [decide_eq_true_eq, decide_eq_false_iff_not, Bool.or_eq_true, Bool.or_eq_false_iff, Bool.and_eq_true, Bool.and_eq_false_imp, Bool.not_eq_true', Bool.not_eq_false'] at hc2
        have hr1 : (a.map bR)[i.toNat]? = some (bR (a.getD i.toNat noB)) := b_at ⟨h1, hc2⟩
        have hr2 : (b.map bR)[i.toNat]? = some (bR (b.getD i.toNat noB)) := b_at ⟨h1, by omega⟩
        have g1 : 0 ≤ i := h1
        have g2 : i < (a.length : Int) := hc2
        have g3 : i < (b.length : Int) := by omega
        refine AW.skip ?_
        show AW _ _ _ _ _
        refine AW.seq ?_
        refine AW.block ?_
        refine AW.regDS follows (by kernel_rfl) ?_
        refine ARE.run1 (by simp (maxSteps := 1000000) only [go_sem, hr1, hr2, g1, g2, g3] <;> exact rfl) ?_
        refine ARE.fin [0, 0, 3, 7, 0, 0, 48, 112, 255] _ (by kernel_rfl) (by simp (maxSteps := 1000000) only [go_sem, hr1, hr2, g1, g2, g3] <;> exact rfl) (by kernel_rfl) (by first | (simp (disch := omega) only [go_sem, w64, wU, hr1, hr2, g1, g2, g3] <;> exact rfl) | exact rfl) ?_
        refine AW.cond (by simp (maxSteps := 1000000) only [go_sem, hr1, hr2, g1, g2, g3] <;> exact rfl) (fun hc3 => ?_) (fun hc3 => ?_)
        · skip
          refine AW.regR rfl (by simp (maxSteps := 1000000) only [go_sem, hr1, hr2, g1, g2, g3] <;> exact rfl) (by first | (simp (disch := omega) only [go_sem, w64, wU, hr1, hr2, g1, g2, g3] <;> exact rfl) | exact rfl) ?_
          refine retK.fin rfl (by simp (maxSteps := 1000000) only [go_sem, hr1, hr2, g1, g2, g3] <;> exact rfl) (by simp (maxSteps := 1000000) only [go_sem, hr1, hr2, g1, g2, g3] <;> exact rfl) (.of ?_)
          have : a ≠ b := fun e => by subst e; simp at hc3
          simp [this]
        · skip
          refine AW.skip ?_
          show AW _ _ _ _ _
          refine AW.regR1 rfl (by simp (maxSteps := 1000000) only [go_sem, hr1, hr2, g1, g2, g3] <;> exact rfl) (by first | (simp (disch := omega) only [go_sem, w64, wU, hr1, hr2, g1, g2, g3] <;> exact rfl) | exact rfl) ?_
          refine ⟨(i + 1), ?_, ?_, ?_⟩
          · (try dsimp only); omega
          · exact ⟨by omega, by omega, fun j hj => if e : (j : Int) < i then h3 j e else by (have hji : j = i.toNat := by omega); subst hji; exact eqB_iff.1 (by simpa [eqB] using hc3)⟩
          · refine Wk.sub ?_
            simp (maxSteps := 1000000) (disch := omega) only [go_sem, w64, wU, hr1, hr2, g1, g2, g3]
      · try simp only [decide_eq_true_eq, decide_eq_false_iff_not, Bool.or_eq_true, Bool.or_eq_false_iff, Bool.and_eq_true, Bool.and_eq_false_imp, Bool.not_eq_true', Bool.not_eq_false'] at hc2
        refine AW.exit ?_
        show AW _ _ _ _ _
        refine AW.regR rfl (by simp (maxSteps := 1000000) only [go_sem] <;> exact rfl) (by first | (simp (disch := omega) only [go_sem, w64, wU] <;> exact rfl) | exact rfl) ?_
        refine retK.fin rfl (by simp (maxSteps := 1000000) only [go_sem] <;> exact rfl) (by simp (maxSteps := 1000000) only [go_sem] <;> exact rfl) (.of ?_)
        have : a = b := list_ext (d := noB) (by omega) (fun j hj => h3 j (by omega))
        simp [this]
end Go.Ab.Try
