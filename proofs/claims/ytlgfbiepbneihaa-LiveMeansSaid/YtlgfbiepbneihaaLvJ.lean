/- Registers that play a part at each place: by both. -/
import Derived.Test.YtlgfbiepbneihaaLvI
namespace Go.Ab.Try
open Go.Proofs Go.Ab
set_option linter.unusedVariables false
set_option linter.unusedSimpArgs false
set_option linter.unnecessarySimpa false
set_option maxRecDepth 100000
theorem c36 (code : List Ins) (hc : OkC code) (hL : code.length ≤ 100) : PC Try.prog 36 [.lst false 5 (code.map inR)] (.lst false 8 ((liveS code).map bR)) := by
  refine PC.start 33 Try.call36 Try.func36 rfl Try.ntmps36 Try.results36 (by simp only [go_sem]; exact rfl) fun z hz => ?_
  have hw1 : IntKind.i64.wrap ((code.length : Int) + 1) = (code.length : Int) + 1 := w64 (by omega) (by omega)
  have g1 : (0 ≤ (code.length : Int) + 1) = True := eq_true (by omega)
  have g2 : (8 * ((code.length : Int) + 1) ≤ 281474976710656) = True := eq_true (by omega)
  have g3 : ((code.length : Int) + 1 ≤ 9223372036854775807) = True := eq_true (by omega)
  have g4 : ((code.length : Int) + 1).toNat = code.length + 1 := by omega
  have g5 := rep_b (code.length + 1)
  refine AW.regR rfl (by simp (maxSteps := 1000000) only [go_sem, hw1, g1, g2, g3, g4, g5] <;> exact rfl) (by first | (simp (disch := omega) only [go_sem, w64, wU, hw1, g1, g2, g3, g4, g5] <;> exact rfl) | exact rfl) ?_
  refine AW.regR rfl (by simp (maxSteps := 1000000) only [go_sem, hw1, g1, g2, g3, g4, g5] <;> exact rfl) (by first | (simp (disch := omega) only [go_sem, w64, wU, hw1, g1, g2, g3, g4, g5] <;> exact rfl) | exact rfl) ?_
  refine AW.seq ?_
  refine AW.regR rfl (by simp (maxSteps := 1000000) only [go_sem, hw1, g1, g2, g3, g4, g5] <;> exact rfl) (by first | (simp (disch := omega) only [go_sem, w64, wU, hw1, g1, g2, g3, g4, g5] <;> exact rfl) | exact rfl) ?_
  refine AW.block ?_
  refine AW.loopV (α := (List B8) × (Bool)) (fun ((al, ag) : (List B8) × (Bool)) => [(3, .vs 0 0 (code.length + 1)), (4, .pv (.bool ag))]) (fun ((al, ag) : (List B8) × (Bool)) => [.vec 8 (al.map bR)]) (fun ((al, ag) : (List B8) × (Bool)) => (LowS code al) ∧ (ag = false → FixS code al)) (fun ((al, ag) : (List B8) × (Bool)) => 2 * falS al + (if ag = true then 1 else 0)) (List.replicate (code.length + 1) noB, true) ?_ ?_ ?_
  · exact ⟨low_start code, fun h => by cases h⟩
  · refine Wk.to [] [0] hz (by decide) ?_ ?_
    · simp (maxSteps := 1000000) (disch := omega) only [go_sem, w64, wU, hw1, g1, g2, g3, g4, g5]
    · simp (maxSteps := 1000000) (disch := omega) only [go_sem, w64, wU, hw1, g1, g2, g3, g4, g5]
  · rintro ⟨al, ag⟩ hF _ ht _ hh
    simp only [updT, go_sem] at ht hh
    subst ht; subst hh
    obtain ⟨h1, h2⟩ := hF
    refine AW.seq ?_
    refine AW.regR rfl (by simp (maxSteps := 1000000) only [go_sem, hw1, g1, g2, g3, g4, g5] <;> exact rfl) (by first | (simp (disch := omega) only [go_sem, w64, wU, hw1, g1, g2, g3, g4, g5] <;> exact rfl) | exact rfl) ?_
    refine AW.cond (by simp (maxSteps := 1000000) only [go_sem, hw1, g1, g2, g3, g4, g5] <;> exact rfl) (fun hc1 => ?_) (fun hc1 => ?_)
    · try simp only [decide_eq_true_eq, decide_eq_false_iff_not, Bool.or_eq_true, Bool.or_eq_false_iff, Bool.and_eq_true, Bool.and_eq_false_imp, Bool.not_eq_true', Bool.not_eq_false'] at hc1
      refine AW.skip ?_
      show AW _ _ _ _ _
      refine AW.block ?_
      refine AW.regR rfl (by simp (maxSteps := 1000000) only [go_sem, hw1, g1, g2, g3, g4, g5] <;> exact rfl) (by first | (simp (disch := omega) only [go_sem, w64, wU, hw1, g1, g2, g3, g4, g5] <;> exact rfl) | exact rfl) ?_
      refine AW.regR rfl (by simp (maxSteps := 1000000) only [go_sem, hw1, g1, g2, g3, g4, g5] <;> exact rfl) (by first | (simp (disch := omega) only [go_sem, w64, wU, hw1, g1, g2, g3, g4, g5] <;> exact rfl) | exact rfl) ?_
      refine AW.block ?_
      refine AW.loopV (α := (List B8) × (Bool) × (Int)) (fun ((al2, ag2, pc) : (List B8) × (Bool) × (Int)) => [(5, .pv (.int .i64 pc)), (4, .pv (.bool ag2))]) (fun ((al2, ag2, pc) : (List B8) × (Bool) × (Int)) => [.vec 8 (al2.map bR)]) (fun ((al2, ag2, pc) : (List B8) × (Bool) × (Int)) => (LowS code al2) ∧ (0 ≤ pc) ∧ (pc ≤ (code.length : Int)) ∧ (ag2 = false → al2 = al ∧ ∀ j : Nat, (j : Int) < pc → al.getD j noB = oneS code al j) ∧ (ag2 = true → falS al2 < falS al)) (fun ((al2, ag2, pc) : (List B8) × (Bool) × (Int)) => ((code.length : Int) - pc).toNat) (al, false, 0) ?_ ?_ ?_
      · exact ⟨h1, by omega, by omega, fun _ => ⟨rfl, fun j hj => by omega⟩, fun h => by cases h⟩
      · refine Wk.to [] [0] hz (by decide) ?_ ?_
        · simp (maxSteps := 1000000) (disch := omega) only [go_sem, w64, wU, hw1, g1, g2, g3, g4, g5]
        · simp (maxSteps := 1000000) (disch := omega) only [go_sem, w64, wU, hw1, g1, g2, g3, g4, g5]
      · rintro ⟨al2, ag2, pc⟩ hF _ ht _ hh
        simp only [updT, go_sem] at ht hh
        subst ht; subst hh
        obtain ⟨k1, k2, k3, k4, k5⟩ := hF
        refine AW.seq ?_
        refine AW.regR rfl (by simp (maxSteps := 1000000) only [go_sem, hw1, g1, g2, g3, g4, g5] <;> exact rfl) (by first | (simp (disch := omega) only [go_sem, w64, wU, hw1, g1, g2, g3, g4, g5] <;> exact rfl) | exact rfl) ?_
        refine AW.cond (by simp (maxSteps := 1000000) only [go_sem, hw1, g1, g2, g3, g4, g5] <;> exact rfl) (fun hc2 => ?_) (fun hc2 => ?_)
        · try simp only [decide_eq_true_eq, decide_eq_false_iff_not, Bool.or_eq_true, Bool.or_eq_false_iff, Bool.and_eq_true, Bool.and_eq_false_imp, Bool.not_eq_true', Bool.not_eq_false'] at hc2
          have hlen : al2.length = code.length + 1 := k1.len
          have g6 : pc < (code.length : Int) := hc2
          have g7 : 0 ≤ pc := k2
          have g8 : (pc.toNat < code.length + 1) = True := eq_true (by omega)
          have g9 : (pc < (code.length : Int) + 1) = True := eq_true (by omega)
          have hra : (al2.map bR)[pc.toNat]? = some (bR (al2.getD pc.toNat noB)) := b_at ⟨k2, by omega⟩
          have g10 : (pc < ((code.length + 1 : Nat) : Int)) = True := eq_true (by omega)
          have htk : List.take (code.length + 1) (al2.map bR) = al2.map bR := List.take_of_length_le (by simp [k1.len])
          refine AW.skip ?_
          show AW _ _ _ _ _
          refine AW.seq ?_
          refine AW.block ?_
          refine AW.regS rfl ?_
          refine ARN.run1 (by simp (maxSteps := 1000000) only [go_sem, hw1, g1, g2, g3, g4, g5, hlen, g6, g7, g8, g9, hra, g10, htk] <;> exact rfl) ?_
          refine ARN.pcallB (fun hp => c65 code al2 pc hc hL ⟨k2, hc2⟩ hlen) rfl rfl (by simp (maxSteps := 1000000) only [go_sem, hw1, g1, g2, g3, g4, g5, hlen, g6, g7, g8, g9, hra, g10, htk] <;> exact rfl) (by simp only [go_sem]) (by simp (maxSteps := 1000000) only [go_sem, hw1, g1, g2, g3, g4, g5, hlen, g6, g7, g8, g9, hra, g10, htk] <;> exact rfl) ?_
          refine ARN.run1 (by simp (maxSteps := 1000000) only [go_sem, hw1, g1, g2, g3, g4, g5, hlen, g6, g7, g8, g9, hra, g10, htk] <;> exact rfl) ?_
          refine ARN.fin (by first | (simp (disch := omega) only [go_sem, w64, wU, hw1, g1, g2, g3, g4, g5, hlen, g6, g7, g8, g9, hra, g10, htk] <;> exact rfl) | exact rfl) ?_
          refine AW.regDS follows (by kernel_rfl) ?_
          refine ARE.run1 (by simp (maxSteps := 1000000) only [go_sem, hw1, g1, g2, g3, g4, g5, hlen, g6, g7, g8, g9, hra, g10, htk] <;> exact rfl) ?_
          refine ARE.fin [0, 0, 0, 6, 14, 31] _ (by kernel_rfl) (by simp (maxSteps := 1000000) only [go_sem, hw1, g1, g2, g3, g4, g5, hlen, g6, g7, g8, g9, hra, g10, htk] <;> exact rfl) (by kernel_rfl) (by first | (simp (disch := omega) only [go_sem, w64, wU, hw1, g1, g2, g3, g4, g5, hlen, g6, g7, g8, g9, hra, g10, htk] <;> exact rfl) | exact rfl) ?_
          refine AW.cond (by simp (maxSteps := 1000000) only [go_sem, hw1, g1, g2, g3, g4, g5, hlen, g6, g7, g8, g9, hra, g10, htk] <;> exact rfl) (fun hc3 => ?_) (fun hc3 => ?_)
          · skip
            refine AW.regR rfl (by simp (maxSteps := 1000000) only [go_sem, hw1, g1, g2, g3, g4, g5, hlen, g6, g7, g8, g9, hra, g10, htk] <;> exact rfl) (by first | (simp (disch := omega) only [go_sem, w64, wU, hw1, g1, g2, g3, g4, g5, hlen, g6, g7, g8, g9, hra, g10, htk] <;> exact rfl) | exact rfl) ?_
            refine AW.regR1 rfl (by simp (maxSteps := 1000000) only [go_sem, hw1, g1, g2, g3, g4, g5, hlen, g6, g7, g8, g9, hra, g10, htk] <;> exact rfl) (by first | (simp (disch := omega) only [go_sem, w64, wU, hw1, g1, g2, g3, g4, g5, hlen, g6, g7, g8, g9, hra, g10, htk] <;> exact rfl) | exact rfl) ?_
            show AW _ _ _ _ _
            refine AW.regR1 rfl (by simp (maxSteps := 1000000) only [go_sem, hw1, g1, g2, g3, g4, g5, hlen, g6, g7, g8, g9, hra, g10, htk] <;> exact rfl) (by first | (simp (disch := omega) only [go_sem, w64, wU, hw1, g1, g2, g3, g4, g5, hlen, g6, g7, g8, g9, hra, g10, htk] <;> exact rfl) | exact rfl) ?_
            refine ⟨(al2.set pc.toNat (oneS code al2 pc), true, (pc + 1)), ?_, ?_, ?_⟩
            · (try dsimp only); omega
            · have hr2 := rnd_set k1 ⟨k2, hc2⟩ (fun h => (k4 h).1) k5 (fun e => by rw [e] at hc3; have := eqB_self (oneS code al2 pc); simp [eqB] at this hc3)
              exact ⟨hr2.1, by omega, by omega, fun h => (by cases h), fun _ => hr2.2⟩
            · refine Wk.to [] [0] hz (by decide) ?_ ?_
              · simp (maxSteps := 1000000) (disch := omega) only [go_sem, w64, wU, hw1, g1, g2, g3, g4, g5, hlen, g6, g7, g8, g9, hra, g10, htk]
              · simp (maxSteps := 1000000) (disch := omega) only [go_sem, w64, wU, hw1, g1, g2, g3, g4, g5, hlen, g6, g7, g8, g9, hra, g10, htk]
          · skip
            refine AW.skip ?_
            show AW _ _ _ _ _
            refine AW.regR1 rfl (by simp (maxSteps := 1000000) only [go_sem, hw1, g1, g2, g3, g4, g5, hlen, g6, g7, g8, g9, hra, g10, htk] <;> exact rfl) (by first | (simp (disch := omega) only [go_sem, w64, wU, hw1, g1, g2, g3, g4, g5, hlen, g6, g7, g8, g9, hra, g10, htk] <;> exact rfl) | exact rfl) ?_
            refine ⟨(al2, ag2, (pc + 1)), ?_, ?_, ?_⟩
            · (try dsimp only); omega
            · have he : oneS code al2 pc = al2.getD pc.toNat noB := eqB_iff.1 (by simpa [eqB] using hc3)
              exact ⟨k1, by omega, by omega, rnd_up k4 k2 he.symm, k5⟩
            · refine Wk.to [] [0] hz (by decide) ?_ ?_
              · simp (maxSteps := 1000000) (disch := omega) only [go_sem, w64, wU, hw1, g1, g2, g3, g4, g5, hlen, g6, g7, g8, g9, hra, g10, htk]
              · simp (maxSteps := 1000000) (disch := omega) only [go_sem, w64, wU, hw1, g1, g2, g3, g4, g5, hlen, g6, g7, g8, g9, hra, g10, htk]
        · try simp only [decide_eq_true_eq, decide_eq_false_iff_not, Bool.or_eq_true, Bool.or_eq_false_iff, Bool.and_eq_true, Bool.and_eq_false_imp, Bool.not_eq_true', Bool.not_eq_false'] at hc2
          refine AW.exit ?_
          refine ⟨(al2, ag2), ?_, ?_, ?_⟩
          · exact rnd_meas (fun h => (k4 h).1) k5 hc1
          · exact ⟨k1, fun h => low_fixed k1 (by rw [(k4 h).1]; exact fun j hj => (k4 h).2 j (by omega))⟩
          · refine Wk.to [] [0] hz (by decide) ?_ ?_
            · simp (maxSteps := 1000000) (disch := omega) only [go_sem, w64, wU, hw1, g1, g2, g3, g4, g5]
            · simp (maxSteps := 1000000) (disch := omega) only [go_sem, w64, wU, hw1, g1, g2, g3, g4, g5]
    · try simp only [decide_eq_true_eq, decide_eq_false_iff_not, Bool.or_eq_true, Bool.or_eq_false_iff, Bool.and_eq_true, Bool.and_eq_false_imp, Bool.not_eq_true', Bool.not_eq_false'] at hc1
      refine AW.exit ?_
      show AW _ _ _ _ _
      refine AW.regR rfl (by simp (maxSteps := 1000000) only [go_sem, hw1, g1, g2, g3, g4, g5] <;> exact rfl) (by first | (simp (disch := omega) only [go_sem, w64, wU, hw1, g1, g2, g3, g4, g5] <;> exact rfl) | exact rfl) ?_
      refine retK.fin rfl (by simp (maxSteps := 1000000) only [go_sem, hw1, g1, g2, g3, g4, g5] <;> exact rfl) (by simp (maxSteps := 1000000) only [go_sem, hw1, g1, g2, g3, g4, g5] <;> exact rfl) (.of ?_)
      rw [live_of h1 (h2 (by simpa using hc1))]; exact congrArg (PV.lst false 8) (List.take_of_length_le (by simp [h1.len]))
theorem c35 (code : List Ins) (hc : OkC code) (hL : code.length ≤ 100) : PC Try.prog 35 [.lst false 5 (code.map inR)] (.lst false 8 ((liveS code).map bR)) := by
  refine PC.start 37 Try.call35 Try.func35 rfl Try.ntmps35 Try.results35 (by simp only [go_sem]; exact rfl) fun z hz => ?_
  have hw1 : IntKind.i64.wrap ((code.length : Int) + 1) = (code.length : Int) + 1 := w64 (by omega) (by omega)
  have hw2 : IntKind.i64.wrap ((code.length : Int) - 1) = (code.length : Int) - 1 := w64 (by omega) (by omega)
  have g1 : (0 ≤ (code.length : Int) + 1) = True := eq_true (by omega)
  have g2 : (8 * ((code.length : Int) + 1) ≤ 281474976710656) = True := eq_true (by omega)
  have g3 : ((code.length : Int) + 1 ≤ 9223372036854775807) = True := eq_true (by omega)
  have g4 : ((code.length : Int) + 1).toNat = code.length + 1 := by omega
  have g5 := rep_b (code.length + 1)
  refine AW.regR rfl (by simp (maxSteps := 1000000) only [go_sem, hw1, hw2, g1, g2, g3, g4, g5] <;> exact rfl) (by first | (simp (disch := omega) only [go_sem, w64, wU, hw1, hw2, g1, g2, g3, g4, g5] <;> exact rfl) | exact rfl) ?_
  refine AW.regR rfl (by simp (maxSteps := 1000000) only [go_sem, hw1, hw2, g1, g2, g3, g4, g5] <;> exact rfl) (by first | (simp (disch := omega) only [go_sem, w64, wU, hw1, hw2, g1, g2, g3, g4, g5] <;> exact rfl) | exact rfl) ?_
  refine AW.seq ?_
  refine AW.regR rfl (by simp (maxSteps := 1000000) only [go_sem, hw1, hw2, g1, g2, g3, g4, g5] <;> exact rfl) (by first | (simp (disch := omega) only [go_sem, w64, wU, hw1, hw2, g1, g2, g3, g4, g5] <;> exact rfl) | exact rfl) ?_
  refine AW.block ?_
  refine AW.loopV (α := (List B8) × (Bool)) (fun ((al, ag) : (List B8) × (Bool)) => [(3, .vs 0 0 (code.length + 1)), (4, .pv (.bool ag))]) (fun ((al, ag) : (List B8) × (Bool)) => [.vec 8 (al.map bR)]) (fun ((al, ag) : (List B8) × (Bool)) => (LowS code al) ∧ (ag = false → FixS code al)) (fun ((al, ag) : (List B8) × (Bool)) => 2 * falS al + (if ag = true then 1 else 0)) (List.replicate (code.length + 1) noB, true) ?_ ?_ ?_
  · exact ⟨low_start code, fun h => by cases h⟩
  · refine Wk.to [] [0] hz (by decide) ?_ ?_
    · simp (maxSteps := 1000000) (disch := omega) only [go_sem, w64, wU, hw1, hw2, g1, g2, g3, g4, g5]
    · simp (maxSteps := 1000000) (disch := omega) only [go_sem, w64, wU, hw1, hw2, g1, g2, g3, g4, g5]
  · rintro ⟨al, ag⟩ hF _ ht _ hh
    simp only [updT, go_sem] at ht hh
    subst ht; subst hh
    obtain ⟨h1, h2⟩ := hF
    refine AW.seq ?_
    refine AW.regR rfl (by simp (maxSteps := 1000000) only [go_sem, hw1, hw2, g1, g2, g3, g4, g5] <;> exact rfl) (by first | (simp (disch := omega) only [go_sem, w64, wU, hw1, hw2, g1, g2, g3, g4, g5] <;> exact rfl) | exact rfl) ?_
    refine AW.cond (by simp (maxSteps := 1000000) only [go_sem, hw1, hw2, g1, g2, g3, g4, g5] <;> exact rfl) (fun hc1 => ?_) (fun hc1 => ?_)
    · try simp only [decide_eq_true_eq, decide_eq_false_iff_not, Bool.or_eq_true, Bool.or_eq_false_iff, Bool.and_eq_true, Bool.and_eq_false_imp, Bool.not_eq_true', Bool.not_eq_false'] at hc1
      refine AW.skip ?_
      show AW _ _ _ _ _
      refine AW.block ?_
      refine AW.regR rfl (by simp (maxSteps := 1000000) only [go_sem, hw1, hw2, g1, g2, g3, g4, g5] <;> exact rfl) (by first | (simp (disch := omega) only [go_sem, w64, wU, hw1, hw2, g1, g2, g3, g4, g5] <;> exact rfl) | exact rfl) ?_
      refine AW.regR rfl (by simp (maxSteps := 1000000) only [go_sem, hw1, hw2, g1, g2, g3, g4, g5] <;> exact rfl) (by first | (simp (disch := omega) only [go_sem, w64, wU, hw1, hw2, g1, g2, g3, g4, g5] <;> exact rfl) | exact rfl) ?_
      refine AW.block ?_
      refine AW.loopV (α := (List B8) × (Bool) × (Int)) (fun ((al2, ag2, pc) : (List B8) × (Bool) × (Int)) => [(5, .pv (.int .i64 pc)), (4, .pv (.bool ag2))]) (fun ((al2, ag2, pc) : (List B8) × (Bool) × (Int)) => [.vec 8 (al2.map bR)]) (fun ((al2, ag2, pc) : (List B8) × (Bool) × (Int)) => (LowS code al2) ∧ (-1 ≤ pc) ∧ (pc < (code.length : Int)) ∧ (ag2 = false → al2 = al ∧ ∀ j : Nat, pc < (j : Int) → j < code.length → al.getD j noB = oneS code al j) ∧ (ag2 = true → falS al2 < falS al)) (fun ((al2, ag2, pc) : (List B8) × (Bool) × (Int)) => (pc + 1).toNat) (al, false, (code.length : Int) - 1) ?_ ?_ ?_
      · exact ⟨h1, by omega, by omega, fun _ => ⟨rfl, fun j hj hl => by omega⟩, fun h => by cases h⟩
      · refine Wk.to [] [0] hz (by decide) ?_ ?_
        · simp (maxSteps := 1000000) (disch := omega) only [go_sem, w64, wU, hw1, hw2, g1, g2, g3, g4, g5]
        · simp (maxSteps := 1000000) (disch := omega) only [go_sem, w64, wU, hw1, hw2, g1, g2, g3, g4, g5]
      · rintro ⟨al2, ag2, pc⟩ hF _ ht _ hh
        simp only [updT, go_sem] at ht hh
        subst ht; subst hh
        obtain ⟨k1, k2, k3, k4, k5⟩ := hF
        refine AW.seq ?_
        refine AW.regR rfl (by simp (maxSteps := 1000000) only [go_sem, hw1, hw2, g1, g2, g3, g4, g5] <;> exact rfl) (by first | (simp (disch := omega) only [go_sem, w64, wU, hw1, hw2, g1, g2, g3, g4, g5] <;> exact rfl) | exact rfl) ?_
        refine AW.cond (by simp (maxSteps := 1000000) only [go_sem, hw1, hw2, g1, g2, g3, g4, g5] <;> exact rfl) (fun hc2 => ?_) (fun hc2 => ?_)
        · try simp only [decide_eq_true_eq, decide_eq_false_iff_not, Bool.or_eq_true, Bool.or_eq_false_iff, Bool.and_eq_true, Bool.and_eq_false_imp, Bool.not_eq_true', Bool.not_eq_false'] at hc2
          have hlen : al2.length = code.length + 1 := k1.len
          have g6 : pc < (code.length : Int) := k3
          have g7 : 0 ≤ pc := hc2
          have g8 : (pc.toNat < code.length + 1) = True := eq_true (by omega)
          have g9 : (pc < (code.length : Int) + 1) = True := eq_true (by omega)
          have hra : (al2.map bR)[pc.toNat]? = some (bR (al2.getD pc.toNat noB)) := b_at ⟨hc2, by omega⟩
          have g10 : (pc < ((code.length + 1 : Nat) : Int)) = True := eq_true (by omega)
          have htk : List.take (code.length + 1) (al2.map bR) = al2.map bR := List.take_of_length_le (by simp [k1.len])
          refine AW.skip ?_
          show AW _ _ _ _ _
          refine AW.seq ?_
          refine AW.block ?_
          refine AW.regS rfl ?_
          refine ARN.run1 (by simp (maxSteps := 1000000) only [go_sem, hw1, hw2, g1, g2, g3, g4, g5, hlen, g6, g7, g8, g9, hra, g10, htk] <;> exact rfl) ?_
          refine ARN.pcallB (fun hp => c64 code al2 pc hc hL ⟨hc2, k3⟩ hlen) rfl rfl (by simp (maxSteps := 1000000) only [go_sem, hw1, hw2, g1, g2, g3, g4, g5, hlen, g6, g7, g8, g9, hra, g10, htk] <;> exact rfl) (by simp only [go_sem]) (by simp (maxSteps := 1000000) only [go_sem, hw1, hw2, g1, g2, g3, g4, g5, hlen, g6, g7, g8, g9, hra, g10, htk] <;> exact rfl) ?_
          refine ARN.run1 (by simp (maxSteps := 1000000) only [go_sem, hw1, hw2, g1, g2, g3, g4, g5, hlen, g6, g7, g8, g9, hra, g10, htk] <;> exact rfl) ?_
          refine ARN.fin (by first | (simp (disch := omega) only [go_sem, w64, wU, hw1, hw2, g1, g2, g3, g4, g5, hlen, g6, g7, g8, g9, hra, g10, htk] <;> exact rfl) | exact rfl) ?_
          refine AW.regDS follows (by kernel_rfl) ?_
          refine ARE.run1 (by simp (maxSteps := 1000000) only [go_sem, hw1, hw2, g1, g2, g3, g4, g5, hlen, g6, g7, g8, g9, hra, g10, htk] <;> exact rfl) ?_
          refine ARE.fin [0, 1, 3, 3, 3, 27, 59, 127, 255, 511] _ (by kernel_rfl) (by simp (maxSteps := 1000000) only [go_sem, hw1, hw2, g1, g2, g3, g4, g5, hlen, g6, g7, g8, g9, hra, g10, htk] <;> exact rfl) (by kernel_rfl) (by first | (simp (disch := omega) only [go_sem, w64, wU, hw1, hw2, g1, g2, g3, g4, g5, hlen, g6, g7, g8, g9, hra, g10, htk] <;> exact rfl) | exact rfl) ?_
          refine AW.regR1 rfl (by simp (maxSteps := 1000000) only [go_sem, hw1, hw2, g1, g2, g3, g4, g5, hlen, g6, g7, g8, g9, hra, g10, htk] <;> exact rfl) (by first | (simp (disch := omega) only [go_sem, w64, wU, hw1, hw2, g1, g2, g3, g4, g5, hlen, g6, g7, g8, g9, hra, g10, htk] <;> exact rfl) | exact rfl) ?_
          show AW _ _ _ _ _
          refine AW.regR1 rfl (by simp (maxSteps := 1000000) only [go_sem, hw1, hw2, g1, g2, g3, g4, g5, hlen, g6, g7, g8, g9, hra, g10, htk] <;> exact rfl) (by first | (simp (disch := omega) only [go_sem, w64, wU, hw1, hw2, g1, g2, g3, g4, g5, hlen, g6, g7, g8, g9, hra, g10, htk] <;> exact rfl) | exact rfl) ?_
          refine ⟨(al2.set pc.toNat (oneS code al2 pc), (ag2 || !eqB (oneS code al2 pc) (al2.getD pc.toNat noB)), (pc - 1)), ?_, ?_, ?_⟩
          · (try dsimp only); omega
          · exact rnd_x k1 ⟨hc2, k3⟩ k4 k5
          · refine Wk.to [] [0] hz (by decide) ?_ ?_
            · simp (maxSteps := 1000000) (disch := omega) only [go_sem, w64, wU, hw1, hw2, g1, g2, g3, g4, g5, hlen, g6, g7, g8, g9, hra, g10, htk]
            · simp (maxSteps := 1000000) (disch := omega) only [go_sem, w64, wU, hw1, hw2, g1, g2, g3, g4, g5, hlen, g6, g7, g8, g9, hra, g10, htk]
        · try simp only [decide_eq_true_eq, decide_eq_false_iff_not, Bool.or_eq_true, Bool.or_eq_false_iff, Bool.and_eq_true, Bool.and_eq_false_imp, Bool.not_eq_true', Bool.not_eq_false'] at hc2
          refine AW.exit ?_
          refine ⟨(al2, ag2), ?_, ?_, ?_⟩
          · exact rnd_meas (fun h => (k4 h).1) k5 hc1
          · exact ⟨k1, fun h => low_fixed k1 (by rw [(k4 h).1]; exact fun j hj => (k4 h).2 j (by omega) hj)⟩
          · refine Wk.to [] [0] hz (by decide) ?_ ?_
            · simp (maxSteps := 1000000) (disch := omega) only [go_sem, w64, wU, hw1, hw2, g1, g2, g3, g4, g5]
            · simp (maxSteps := 1000000) (disch := omega) only [go_sem, w64, wU, hw1, hw2, g1, g2, g3, g4, g5]
    · try simp only [decide_eq_true_eq, decide_eq_false_iff_not, Bool.or_eq_true, Bool.or_eq_false_iff, Bool.and_eq_true, Bool.and_eq_false_imp, Bool.not_eq_true', Bool.not_eq_false'] at hc1
      refine AW.exit ?_
      show AW _ _ _ _ _
      refine AW.regR rfl (by simp (maxSteps := 1000000) only [go_sem, hw1, hw2, g1, g2, g3, g4, g5] <;> exact rfl) (by first | (simp (disch := omega) only [go_sem, w64, wU, hw1, hw2, g1, g2, g3, g4, g5] <;> exact rfl) | exact rfl) ?_
      refine retK.fin rfl (by simp (maxSteps := 1000000) only [go_sem, hw1, hw2, g1, g2, g3, g4, g5] <;> exact rfl) (by simp (maxSteps := 1000000) only [go_sem, hw1, hw2, g1, g2, g3, g4, g5] <;> exact rfl) (.of ?_)
      rw [live_of h1 (h2 (by simpa using hc1))]; exact congrArg (PV.lst false 8) (List.take_of_length_le (by simp [h1.len]))
end Go.Ab.Try
