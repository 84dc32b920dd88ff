/- Clauses counted: the code's ways, gone through with what is lent. -/
import Derived.Test.YtknlgjeeenkleaaCnG
namespace Go.Ab.Try
open Go.Proofs Go.Ab
set_option linter.unusedVariables false
set_option linter.unusedSimpArgs false
set_option maxRecDepth 100000
theorem c88 (vars : Int) (l : List (List Int)) (hl : Wf l) : PC Try.prog 88 [.int .i64 vars, cls l] (.tup [.int .i64 (cntV vars l), .int .i64 (mayC vars l)]) := by
  refine PC.start 14 Try.call88 Try.func88 rfl Try.ntmps88 Try.results88 (by simp only [go_sem]; exact rfl) fun z hz => ?_
  refine AW.regR rfl (by simp (maxSteps := 1000000) only [go_sem, List.length_map, List.map_replicate, cnt_z, cls, bools, Int.one_mul, Nat.zero_add, tr_length, Nat.le_refl] <;> exact rfl) (by simp (disch := omega) only [go_sem, w64, wU, List.length_map, List.map_replicate, cnt_z, cls, bools, Int.one_mul, Nat.zero_add, tr_length, Nat.le_refl] <;> exact rfl) ?_
  refine AW.regR rfl (by simp (maxSteps := 1000000) only [go_sem, List.length_map, List.map_replicate, cnt_z, cls, bools, Int.one_mul, Nat.zero_add, tr_length, Nat.le_refl] <;> exact rfl) (by simp (disch := omega) only [go_sem, w64, wU, List.length_map, List.map_replicate, cnt_z, cls, bools, Int.one_mul, Nat.zero_add, tr_length, Nat.le_refl] <;> exact rfl) ?_
  refine AW.regL ?_
  refine AWL.runG (by simp (maxSteps := 1000000) only [go_sem, List.length_map, List.map_replicate, cnt_z, cls, bools, Int.one_mul, Nat.zero_add, tr_length, Nat.le_refl] <;> exact rfl) ?_
  refine AWL.icall2 rfl (by simp (maxSteps := 1000000) only [go_sem, List.length_map, List.map_replicate, cnt_z, cls, bools, Int.one_mul, Nat.zero_add, tr_length, Nat.le_refl] <;> exact rfl) (by simp (maxSteps := 1000000) only [go_sem, List.length_map, List.map_replicate, cnt_z, cls, bools, Int.one_mul, Nat.zero_add, tr_length, Nat.le_refl] <;> exact rfl) Try.call131 Try.func131 rfl Try.ntmps131 Try.results131 (by simp (maxSteps := 1000000) only [go_sem, List.length_map, List.map_replicate, cnt_z, cls, bools, Int.one_mul, Nat.zero_add, tr_length, Nat.le_refl] <;> exact rfl) (by simp (maxSteps := 1000000) only [go_sem, List.length_map, List.map_replicate, cnt_z, cls, bools, Int.one_mul, Nat.zero_add, tr_length, Nat.le_refl] <;> exact rfl) (fun z1 hz1 => ?_)
  refine AW.regR rfl (by simp (maxSteps := 1000000) only [go_sem, List.length_map, List.map_replicate, cnt_z, cls, bools, Int.one_mul, Nat.zero_add, tr_length, Nat.le_refl] <;> exact rfl) (by simp (disch := omega) only [go_sem, w64, wU, List.length_map, List.map_replicate, cnt_z, cls, bools, Int.one_mul, Nat.zero_add, tr_length, Nat.le_refl] <;> exact rfl) ?_
  refine AW.seq ?_
  refine AW.regS rfl ?_
  refine ARN.run1 (by simp (maxSteps := 1000000) only [go_sem, List.length_map, List.map_replicate, cnt_z, cls, bools, Int.one_mul, Nat.zero_add, tr_length, Nat.le_refl] <;> exact rfl) ?_
  refine ARN.pcall (fun hp => c84 vars l hl) rfl (by simp (maxSteps := 1000000) only [go_sem, List.length_map, List.map_replicate, cnt_z, cls, bools, Int.one_mul, Nat.zero_add, tr_length, Nat.le_refl] <;> exact rfl) (by simp only [go_sem]) (by simp (maxSteps := 1000000) only [go_sem, List.length_map, List.map_replicate, cnt_z, cls, bools, Int.one_mul, Nat.zero_add, tr_length, Nat.le_refl] <;> exact rfl) ?_
  refine ARN.run1 (by simp (maxSteps := 1000000) only [go_sem, List.length_map, List.map_replicate, cnt_z, cls, bools, Int.one_mul, Nat.zero_add, tr_length, Nat.le_refl] <;> exact rfl) ?_
  refine ARN.fin (by simp (disch := omega) only [go_sem, w64, wU, List.length_map, List.map_replicate, cnt_z, cls, bools, Int.one_mul, Nat.zero_add, tr_length, Nat.le_refl] <;> exact rfl) ?_
  refine AW.regR rfl (by simp (maxSteps := 1000000) only [go_sem, List.length_map, List.map_replicate, cnt_z, cls, bools, Int.one_mul, Nat.zero_add, tr_length, Nat.le_refl] <;> exact rfl) (by simp (disch := omega) only [go_sem, w64, wU, List.length_map, List.map_replicate, cnt_z, cls, bools, Int.one_mul, Nat.zero_add, tr_length, Nat.le_refl] <;> exact rfl) ?_
  refine AW.cond (by simp (maxSteps := 1000000) only [go_sem, List.length_map, List.map_replicate, cnt_z, cls, bools, Int.one_mul, Nat.zero_add, tr_length, Nat.le_refl] <;> exact rfl) (fun hc1 => ?_) (fun hc1 => ?_)
  · try simp only [decide_eq_true_eq, decide_eq_false_iff_not, Bool.or_eq_true, Bool.or_eq_false_iff, Bool.and_eq_true, Bool.and_eq_false_imp, Bool.not_eq_true', Bool.not_eq_false'] at hc1
    have hce : (chkC vars l = 0) = False := eq_false hc1
    refine AW.regR rfl (by simp (maxSteps := 1000000) only [go_sem, List.length_map, List.map_replicate, cnt_z, cls, bools, Int.one_mul, Nat.zero_add, tr_length, Nat.le_refl, hce] <;> exact rfl) (by simp (disch := omega) only [go_sem, w64, wU, List.length_map, List.map_replicate, cnt_z, cls, bools, Int.one_mul, Nat.zero_add, tr_length, Nat.le_refl, hce] <;> exact rfl) ?_
    refine icK.finQ rfl (by simp (maxSteps := 1000000) only [go_sem, List.length_map, List.map_replicate, cnt_z, cls, bools, Int.one_mul, Nat.zero_add, tr_length, Nat.le_refl, hce] <;> exact rfl) (by simp (maxSteps := 1000000) only [go_sem, List.length_map, List.map_replicate, cnt_z, cls, bools, Int.one_mul, Nat.zero_add, tr_length, Nat.le_refl, hce] <;> exact rfl) ?_
    refine AWL.runG (by simp (maxSteps := 1000000) only [go_sem, List.length_map, List.map_replicate, cnt_z, cls, bools, Int.one_mul, Nat.zero_add, tr_length, Nat.le_refl, hce] <;> exact rfl) ?_
    refine AWL.fin (by simp (disch := omega) only [go_sem, w64, wU, List.length_map, List.map_replicate, cnt_z, cls, bools, Int.one_mul, Nat.zero_add, tr_length, Nat.le_refl, hce] <;> exact rfl) ?_
    refine AW.regR rfl (by simp (maxSteps := 1000000) only [go_sem, List.length_map, List.map_replicate, cnt_z, cls, bools, Int.one_mul, Nat.zero_add, tr_length, Nat.le_refl, hce] <;> exact rfl) (by simp (disch := omega) only [go_sem, w64, wU, List.length_map, List.map_replicate, cnt_z, cls, bools, Int.one_mul, Nat.zero_add, tr_length, Nat.le_refl, hce] <;> exact rfl) ?_
    refine retK.fin rfl (by simp (maxSteps := 1000000) only [go_sem, List.length_map, List.map_replicate, cnt_z, cls, bools, Int.one_mul, Nat.zero_add, tr_length, Nat.le_refl, hce] <;> exact rfl) (by simp (maxSteps := 1000000) only [go_sem, List.length_map, List.map_replicate, cnt_z, cls, bools, Int.one_mul, Nat.zero_add, tr_length, Nat.le_refl, hce] <;> exact rfl) (.of ?_)
    have hm : ¬ mayC vars l = 0 := by (unfold mayC; rw [if_neg hc1]; exact hc1)
    have e : mayC vars l = chkC vars l := by (unfold mayC; rw [if_neg hc1])
    unfold cntV; rw [if_neg hm, e]
  · try simp only [decide_eq_true_eq, decide_eq_false_iff_not, Bool.or_eq_true, Bool.or_eq_false_iff, Bool.and_eq_true, Bool.and_eq_false_imp, Bool.not_eq_true', Bool.not_eq_false'] at hc1
    have hce : chkC vars l = 0 := hc1
    refine AW.skip ?_
    show AW _ _ _ _ _
    refine AW.seq ?_
    refine AW.regR rfl (by simp (maxSteps := 1000000) only [go_sem, List.length_map, List.map_replicate, cnt_z, cls, bools, Int.one_mul, Nat.zero_add, tr_length, Nat.le_refl, hce] <;> exact rfl) (by simp (disch := omega) only [go_sem, w64, wU, List.length_map, List.map_replicate, cnt_z, cls, bools, Int.one_mul, Nat.zero_add, tr_length, Nat.le_refl, hce] <;> exact rfl) ?_
    refine AW.cond (by simp (maxSteps := 1000000) only [go_sem, List.length_map, List.map_replicate, cnt_z, cls, bools, Int.one_mul, Nat.zero_add, tr_length, Nat.le_refl, hce] <;> exact rfl) (fun hc2 => ?_) (fun hc2 => ?_)
    · try simp only [decide_eq_true_eq, decide_eq_false_iff_not, Bool.or_eq_true, Bool.or_eq_false_iff, Bool.and_eq_true, Bool.and_eq_false_imp, Bool.not_eq_true', Bool.not_eq_false'] at hc2
      refine AW.regR rfl (by simp (maxSteps := 1000000) only [go_sem, List.length_map, List.map_replicate, cnt_z, cls, bools, Int.one_mul, Nat.zero_add, tr_length, Nat.le_refl, hce] <;> exact rfl) (by simp (disch := omega) only [go_sem, w64, wU, List.length_map, List.map_replicate, cnt_z, cls, bools, Int.one_mul, Nat.zero_add, tr_length, Nat.le_refl, hce] <;> exact rfl) ?_
      refine icK.finQ rfl (by simp (maxSteps := 1000000) only [go_sem, List.length_map, List.map_replicate, cnt_z, cls, bools, Int.one_mul, Nat.zero_add, tr_length, Nat.le_refl, hce] <;> exact rfl) (by simp (maxSteps := 1000000) only [go_sem, List.length_map, List.map_replicate, cnt_z, cls, bools, Int.one_mul, Nat.zero_add, tr_length, Nat.le_refl, hce] <;> exact rfl) ?_
      refine AWL.runG (by simp (maxSteps := 1000000) only [go_sem, List.length_map, List.map_replicate, cnt_z, cls, bools, Int.one_mul, Nat.zero_add, tr_length, Nat.le_refl, hce] <;> exact rfl) ?_
      refine AWL.fin (by simp (disch := omega) only [go_sem, w64, wU, List.length_map, List.map_replicate, cnt_z, cls, bools, Int.one_mul, Nat.zero_add, tr_length, Nat.le_refl, hce] <;> exact rfl) ?_
      refine AW.regR rfl (by simp (maxSteps := 1000000) only [go_sem, List.length_map, List.map_replicate, cnt_z, cls, bools, Int.one_mul, Nat.zero_add, tr_length, Nat.le_refl, hce] <;> exact rfl) (by simp (disch := omega) only [go_sem, w64, wU, List.length_map, List.map_replicate, cnt_z, cls, bools, Int.one_mul, Nat.zero_add, tr_length, Nat.le_refl, hce] <;> exact rfl) ?_
      refine retK.fin rfl (by simp (maxSteps := 1000000) only [go_sem, List.length_map, List.map_replicate, cnt_z, cls, bools, Int.one_mul, Nat.zero_add, tr_length, Nat.le_refl, hce] <;> exact rfl) (by simp (maxSteps := 1000000) only [go_sem, List.length_map, List.map_replicate, cnt_z, cls, bools, Int.one_mul, Nat.zero_add, tr_length, Nat.le_refl, hce] <;> exact rfl) (.of ?_)
      have e : mayC vars l = 8 := by (unfold mayC; rw [if_pos hc1, if_pos hc2])
      unfold cntV; rw [e]; rfl
    · try simp only [decide_eq_true_eq, decide_eq_false_iff_not, Bool.or_eq_true, Bool.or_eq_false_iff, Bool.and_eq_true, Bool.and_eq_false_imp, Bool.not_eq_true', Bool.not_eq_false'] at hc2
      refine AW.skip ?_
      show AW _ _ _ _ _
      have hv := may_rng (vars := vars) (l := l) (by unfold mayC; rw [if_pos hc1, if_neg hc2])
      have hN2 := pow_le hv.2; generalize hN : 2 ^ vars.toNat = N at hN2
      have hv0 : 0 ≤ vars := hv.1
      have hv3 : ¬ (vars < 0) := by omega
      have hv1 : vars ≤ 281474976710656 := by omega
      have hv2 : vars ≤ 9223372036854775807 := by omega
      have hsh : ishl .i64 1 vars = (N : Int) := shl_one hv hN.symm
      have htv : ((vars.toNat : Nat) : Int) = vars := tN hv.1
      refine AW.regR rfl (by simp (maxSteps := 1000000) only [go_sem, List.length_map, List.map_replicate, cnt_z, cls, bools, Int.one_mul, Nat.zero_add, tr_length, Nat.le_refl, hce, hv0, hv3, hv1, hv2, hsh, htv] <;> exact rfl) (by simp (disch := omega) only [go_sem, w64, wU, List.length_map, List.map_replicate, cnt_z, cls, bools, Int.one_mul, Nat.zero_add, tr_length, Nat.le_refl, hce, hv0, hv3, hv1, hv2, hsh, htv] <;> exact rfl) ?_
      refine AW.seq ?_
      refine AW.regR rfl (by simp (maxSteps := 1000000) only [go_sem, List.length_map, List.map_replicate, cnt_z, cls, bools, Int.one_mul, Nat.zero_add, tr_length, Nat.le_refl, hce, hv0, hv3, hv1, hv2, hsh, htv] <;> exact rfl) (by simp (disch := omega) only [go_sem, w64, wU, List.length_map, List.map_replicate, cnt_z, cls, bools, Int.one_mul, Nat.zero_add, tr_length, Nat.le_refl, hce, hv0, hv3, hv1, hv2, hsh, htv] <;> exact rfl) ?_
      refine AW.block ?_
      refine AW.loopV (α := (List Bool) × (Int)) (fun ((m, n) : (List Bool) × (Int)) => [(22, .pv (.int .i64 n))]) (fun ((m, n) : (List Bool) × (Int)) => [.box [.pv (.int .i64 (cnt vars.toNat l n.toNat))], .vec 1 (m.map fun x => [.bool x])]) (fun ((m, n) : (List Bool) × (Int)) => (0 ≤ n) ∧ (n ≤ (N : Int)) ∧ (m.length = vars.toNat)) (fun ((m, n) : (List Bool) × (Int)) => ((N : Int) - n).toNat) (List.replicate vars.toNat false, 0) ?_ ?_ ?_
      · exact ⟨by omega, by omega, by simp⟩
      · refine Wk.subE ?_ ?_
        · simp (maxSteps := 1000000) (disch := omega) only [go_sem, w64, wU, List.length_map, List.map_replicate, cnt_z, cls, bools, Int.one_mul, Nat.zero_add, tr_length, Nat.le_refl, hce, hv0, hv3, hv1, hv2, hsh, htv]
        · simp (maxSteps := 1000000) (disch := omega) only [go_sem, w64, wU, List.length_map, List.map_replicate, cnt_z, cls, bools, Int.one_mul, Nat.zero_add, tr_length, Nat.le_refl, hce, hv0, hv3, hv1, hv2, hsh, htv]
      · rintro ⟨m, n⟩ hF _ ht _ hh
        simp only [updT, go_sem] at ht hh
        subst ht; subst hh
        obtain ⟨h1, h2, h3⟩ := hF
        refine AW.regR rfl (by simp (maxSteps := 1000000) only [go_sem, List.length_map, List.map_replicate, cnt_z, cls, bools, Int.one_mul, Nat.zero_add, tr_length, Nat.le_refl, hce, hv0, hv3, hv1, hv2, hsh, htv] <;> exact rfl) (by simp (disch := omega) only [go_sem, w64, wU, List.length_map, List.map_replicate, cnt_z, cls, bools, Int.one_mul, Nat.zero_add, tr_length, Nat.le_refl, hce, hv0, hv3, hv1, hv2, hsh, htv] <;> exact rfl) ?_
        refine AW.seq ?_
        refine AW.cond (by simp (maxSteps := 1000000) only [go_sem, List.length_map, List.map_replicate, cnt_z, cls, bools, Int.one_mul, Nat.zero_add, tr_length, Nat.le_refl, hce, hv0, hv3, hv1, hv2, hsh, htv] <;> exact rfl) (fun hc3 => ?_) (fun hc3 => ?_)
        · try simp only [decide_eq_true_eq, decide_eq_false_iff_not, Bool.or_eq_true, Bool.or_eq_false_iff, Bool.and_eq_true, Bool.and_eq_false_imp, Bool.not_eq_true', Bool.not_eq_false'] at hc3
          refine AW.skip ?_
          show AW _ _ _ _ _
          refine AW.seq ?_
          refine AW.block ?_
          have hml0 := h3
          have hcr := cnt_rng vars.toNat l n.toNat
          have hml : m.length = vars.toNat := h3
          have hwc : IntKind.i64.wrap (cnt vars.toNat l n.toNat + 1) = cnt vars.toNat l n.toNat + 1 := w64 (by omega) (by omega)
          refine AW.regR rfl (by simp (maxSteps := 1000000) only [go_sem, List.length_map, List.map_replicate, cnt_z, cls, bools, Int.one_mul, Nat.zero_add, tr_length, Nat.le_refl, hce, hv0, hv3, hv1, hv2, hsh, htv, hml, hwc] <;> exact rfl) (by simp (disch := omega) only [go_sem, w64, wU, List.length_map, List.map_replicate, cnt_z, cls, bools, Int.one_mul, Nat.zero_add, tr_length, Nat.le_refl, hce, hv0, hv3, hv1, hv2, hsh, htv, hml, hwc] <;> exact rfl) ?_
          refine AW.regL ?_
          refine AWL.runG (by simp (maxSteps := 1000000) only [go_sem, List.length_map, List.map_replicate, cnt_z, cls, bools, Int.one_mul, Nat.zero_add, tr_length, Nat.le_refl, hce, hv0, hv3, hv1, hv2, hsh, htv, hml, hwc] <;> exact rfl) ?_
          refine AWL.icall2 rfl (by simp (maxSteps := 1000000) only [go_sem, List.length_map, List.map_replicate, cnt_z, cls, bools, Int.one_mul, Nat.zero_add, tr_length, Nat.le_refl, hce, hv0, hv3, hv1, hv2, hsh, htv, hml, hwc] <;> exact rfl) (by simp (maxSteps := 1000000) only [go_sem, List.length_map, List.map_replicate, cnt_z, cls, bools, Int.one_mul, Nat.zero_add, tr_length, Nat.le_refl, hce, hv0, hv3, hv1, hv2, hsh, htv, hml, hwc] <;> exact rfl) Try.call136 Try.func136 rfl Try.ntmps136 Try.results136 (by simp (maxSteps := 1000000) only [go_sem, List.length_map, List.map_replicate, cnt_z, cls, bools, Int.one_mul, Nat.zero_add, tr_length, Nat.le_refl, hce, hv0, hv3, hv1, hv2, hsh, htv, hml, hwc] <;> exact rfl) (by simp (maxSteps := 1000000) only [go_sem, List.length_map, List.map_replicate, cnt_z, cls, bools, Int.one_mul, Nat.zero_add, tr_length, Nat.le_refl, hce, hv0, hv3, hv1, hv2, hsh, htv, hml, hwc] <;> exact rfl) (fun z2 hz2 => ?_)
          refine AW.regR rfl (by simp (maxSteps := 1000000) only [go_sem, List.length_map, List.map_replicate, cnt_z, cls, bools, Int.one_mul, Nat.zero_add, tr_length, Nat.le_refl, hce, hv0, hv3, hv1, hv2, hsh, htv, hml, hwc] <;> exact rfl) (by simp (disch := omega) only [go_sem, w64, wU, List.length_map, List.map_replicate, cnt_z, cls, bools, Int.one_mul, Nat.zero_add, tr_length, Nat.le_refl, hce, hv0, hv3, hv1, hv2, hsh, htv, hml, hwc] <;> exact rfl) ?_
          refine AW.block ?_
          refine AW.loopV (α := (List Bool) × (Int)) (fun ((m2, v) : (List Bool) × (Int)) => [(7, .pv (.int .i64 v))]) (fun ((m2, v) : (List Bool) × (Int)) => [.box [.pv (.int .i64 (cnt vars.toNat l n.toNat))], .vec 1 (m2.map fun x => [.bool x])]) (fun ((m2, v) : (List Bool) × (Int)) => (0 ≤ v) ∧ (v ≤ vars) ∧ (m2.length = vars.toNat) ∧ (∀ j : Nat, (j : Int) < v → m2[j]? = (tr vars.toNat n)[j]?)) (fun ((m2, v) : (List Bool) × (Int)) => (vars - v).toNat) (m, 0) ?_ ?_ ?_
          · exact ⟨by omega, by omega, h3, fun j hj => by omega⟩
          · refine Wk.subE ?_ ?_
            · simp (maxSteps := 1000000) (disch := omega) only [go_sem, w64, wU, List.length_map, List.map_replicate, cnt_z, cls, bools, Int.one_mul, Nat.zero_add, tr_length, Nat.le_refl, hce, hv0, hv3, hv1, hv2, hsh, htv, hml, hwc]
            · simp (maxSteps := 1000000) (disch := omega) only [go_sem, w64, wU, List.length_map, List.map_replicate, cnt_z, cls, bools, Int.one_mul, Nat.zero_add, tr_length, Nat.le_refl, hce, hv0, hv3, hv1, hv2, hsh, htv, hml, hwc]
          · rintro ⟨m2, v⟩ hF _ ht _ hh
            simp only [updT, go_sem] at ht hh
            subst ht; subst hh
            obtain ⟨b1, b2, b3, b4⟩ := hF
            refine AW.regR rfl (by simp (maxSteps := 1000000) only [go_sem, List.length_map, List.map_replicate, cnt_z, cls, bools, Int.one_mul, Nat.zero_add, tr_length, Nat.le_refl, hce, hv0, hv3, hv1, hv2, hsh, htv, hml, hwc] <;> exact rfl) (by simp (disch := omega) only [go_sem, w64, wU, List.length_map, List.map_replicate, cnt_z, cls, bools, Int.one_mul, Nat.zero_add, tr_length, Nat.le_refl, hce, hv0, hv3, hv1, hv2, hsh, htv, hml, hwc] <;> exact rfl) ?_
            refine AW.seq ?_
            refine AW.cond (by simp (maxSteps := 1000000) only [go_sem, List.length_map, List.map_replicate, cnt_z, cls, bools, Int.one_mul, Nat.zero_add, tr_length, Nat.le_refl, hce, hv0, hv3, hv1, hv2, hsh, htv, hml, hwc] <;> exact rfl) (fun hc4 => ?_) (fun hc4 => ?_)
            · try simp only [decide_eq_true_eq, decide_eq_false_iff_not, Bool.or_eq_true, Bool.or_eq_false_iff, Bool.and_eq_true, Bool.and_eq_false_imp, Bool.not_eq_true', Bool.not_eq_false'] at hc4
              have r1 : (m2.map fun x => [PV.bool x])[v.toNat]? = some [.bool (m2.getD v.toNat false)] := bools_at ⟨b1, by omega⟩
              have r2 : 0 ≤ v := b1
              have r3 : v < vars := hc4
              have r4 : ¬ v < 0 := by omega
              have r5 : decide (iand .i64 (ishr .i64 n v) 1 = 1) = decide (n / 2 ^ v.toNat % 2 = 1) := by rw [iand_1, ishr_i64 (by omega)]; rfl
              refine AW.skip ?_
              show AW _ _ _ _ _
              refine AW.seq ?_
              refine AW.block ?_
              refine AW.regR rfl (by simp (maxSteps := 1000000) only [go_sem, List.length_map, List.map_replicate, cnt_z, cls, bools, Int.one_mul, Nat.zero_add, tr_length, Nat.le_refl, hce, hv0, hv3, hv1, hv2, hsh, htv, hml, hwc, r1, r2, r3, r4, r5] <;> exact rfl) (by simp (disch := omega) only [go_sem, w64, wU, List.length_map, List.map_replicate, cnt_z, cls, bools, Int.one_mul, Nat.zero_add, tr_length, Nat.le_refl, hce, hv0, hv3, hv1, hv2, hsh, htv, hml, hwc, r1, r2, r3, r4, r5] <;> exact rfl) ?_
              refine AW.regR1 rfl (by simp (maxSteps := 1000000) only [go_sem, List.length_map, List.map_replicate, cnt_z, cls, bools, Int.one_mul, Nat.zero_add, tr_length, Nat.le_refl, hce, hv0, hv3, hv1, hv2, hsh, htv, hml, hwc, r1, r2, r3, r4, r5] <;> exact rfl) (by simp (disch := omega) only [go_sem, w64, wU, List.length_map, List.map_replicate, cnt_z, cls, bools, Int.one_mul, Nat.zero_add, tr_length, Nat.le_refl, hce, hv0, hv3, hv1, hv2, hsh, htv, hml, hwc, r1, r2, r3, r4, r5] <;> exact rfl) ?_
              show AW _ _ _ _ _
              refine AW.regR1 rfl (by simp (maxSteps := 1000000) only [go_sem, List.length_map, List.map_replicate, cnt_z, cls, bools, Int.one_mul, Nat.zero_add, tr_length, Nat.le_refl, hce, hv0, hv3, hv1, hv2, hsh, htv, hml, hwc, r1, r2, r3, r4, r5] <;> exact rfl) (by simp (disch := omega) only [go_sem, w64, wU, List.length_map, List.map_replicate, cnt_z, cls, bools, Int.one_mul, Nat.zero_add, tr_length, Nat.le_refl, hce, hv0, hv3, hv1, hv2, hsh, htv, hml, hwc, r1, r2, r3, r4, r5] <;> exact rfl) ?_
              refine ⟨(m2.set v.toNat (decide (n / 2 ^ v.toNat % 2 = 1)), v + 1), ?_, ?_, ?_⟩
              · (try dsimp only); omega
              · refine ⟨by omega, by omega, by simp [b3], fun j hj => ?_⟩
                by_cases e : j = v.toNat
                · subst e; rw [List.getElem?_set_self (by omega), tr_at _ (by omega)]
                · rw [List.getElem?_set_ne (fun h => e h.symm)]; exact b4 j (by omega)
              · refine Wk.subE ?_ ?_
                · simp (maxSteps := 1000000) (disch := omega) only [go_sem, w64, wU, List.length_map, List.map_replicate, cnt_z, cls, bools, Int.one_mul, Nat.zero_add, tr_length, Nat.le_refl, hce, hv0, hv3, hv1, hv2, hsh, htv, hml, hwc, r1, r2, r3, r4, r5]
                · simp (maxSteps := 1000000) (disch := omega) only [go_sem, w64, wU, List.length_map, List.map_replicate, cnt_z, cls, bools, Int.one_mul, Nat.zero_add, tr_length, Nat.le_refl, hce, hv0, hv3, hv1, hv2, hsh, htv, hml, hwc, r1, r2, r3, r4, r5]
            · try simp only [decide_eq_true_eq, decide_eq_false_iff_not, Bool.or_eq_true, Bool.or_eq_false_iff, Bool.and_eq_true, Bool.and_eq_false_imp, Bool.not_eq_true', Bool.not_eq_false'] at hc4
              have htk : List.take vars.toNat (List.map (fun x => [PV.bool x]) (tr vars.toNat n)) = List.map (fun x => [PV.bool x]) (tr vars.toNat n) := List.take_of_length_le (by simp [tr_length])
              have hm2 : m2 = tr vars.toNat n := List.ext_getElem? fun j => if hj : (j : Int) < v then b4 j hj else by rw [List.getElem?_eq_none (by omega), List.getElem?_eq_none (by rw [tr_length]; omega)]
              refine AW.exit ?_
              refine icK.finQ1 rfl (by simp (maxSteps := 1000000) only [go_sem, List.length_map, List.map_replicate, cnt_z, cls, bools, Int.one_mul, Nat.zero_add, tr_length, Nat.le_refl, hce, hv0, hv3, hv1, hv2, hsh, htv, hml, hwc, htk, hm2] <;> exact rfl) (by simp (maxSteps := 1000000) only [go_sem, List.length_map, List.map_replicate, cnt_z, cls, bools, Int.one_mul, Nat.zero_add, tr_length, Nat.le_refl, hce, hv0, hv3, hv1, hv2, hsh, htv, hml, hwc, htk, hm2] <;> exact rfl) ?_
              refine AWL.fin (by simp (disch := omega) only [go_sem, w64, wU, List.length_map, List.map_replicate, cnt_z, cls, bools, Int.one_mul, Nat.zero_add, tr_length, Nat.le_refl, hce, hv0, hv3, hv1, hv2, hsh, htv, hml, hwc, htk, hm2] <;> exact rfl) ?_
              by_cases hsf131_N11 : fbI l (tr vars.toNat n) < 0
              · have hcn := cnt_yes (k := vars.toNat) (l := l) h1 hsf131_N11
                refine AW.regL ?_
                refine AWL.runG (by simp (maxSteps := 1000000) only [go_sem, List.length_map, List.map_replicate, cnt_z, cls, bools, Int.one_mul, Nat.zero_add, tr_length, Nat.le_refl, hce, hv0, hv3, hv1, hv2, hsh, htv, hml, hwc, htk, hm2, hsf131_N11, hcn] <;> exact rfl) ?_
                refine AWL.pcallB2 (c86 l false (tr vars.toNat n) hl) rfl (by simp (maxSteps := 1000000) only [go_sem, List.length_map, List.map_replicate, cnt_z, cls, bools, Int.one_mul, Nat.zero_add, tr_length, Nat.le_refl, hce, hv0, hv3, hv1, hv2, hsh, htv, hml, hwc, htk, hm2, hsf131_N11, hcn] <;> exact rfl) rfl (by simp (maxSteps := 1000000) only [go_sem, List.length_map, List.map_replicate, cnt_z, cls, bools, Int.one_mul, Nat.zero_add, tr_length, Nat.le_refl, hce, hv0, hv3, hv1, hv2, hsh, htv, hml, hwc, htk, hm2, hsf131_N11, hcn] <;> exact rfl) (by simp (maxSteps := 1000000) only [go_sem, List.length_map, List.map_replicate, cnt_z, cls, bools, Int.one_mul, Nat.zero_add, tr_length, Nat.le_refl, hce, hv0, hv3, hv1, hv2, hsh, htv, hml, hwc, htk, hm2, hsf131_N11, hcn] <;> exact rfl) ?_
                refine AWL.runG (by simp (maxSteps := 1000000) only [go_sem, List.length_map, List.map_replicate, cnt_z, cls, bools, Int.one_mul, Nat.zero_add, tr_length, Nat.le_refl, hce, hv0, hv3, hv1, hv2, hsh, htv, hml, hwc, htk, hm2, hsf131_N11, hcn] <;> exact rfl) ?_
                refine AWL.icall2 rfl (by simp (maxSteps := 1000000) only [go_sem, List.length_map, List.map_replicate, cnt_z, cls, bools, Int.one_mul, Nat.zero_add, tr_length, Nat.le_refl, hce, hv0, hv3, hv1, hv2, hsh, htv, hml, hwc, htk, hm2, hsf131_N11, hcn] <;> exact rfl) (by simp (maxSteps := 1000000) only [go_sem, List.length_map, List.map_replicate, cnt_z, cls, bools, Int.one_mul, Nat.zero_add, tr_length, Nat.le_refl, hce, hv0, hv3, hv1, hv2, hsh, htv, hml, hwc, htk, hm2, hsf131_N11, hcn] <;> exact rfl) Try.call132 Try.func132 rfl Try.ntmps132 Try.results132 (by simp (maxSteps := 1000000) only [go_sem, List.length_map, List.map_replicate, cnt_z, cls, bools, Int.one_mul, Nat.zero_add, tr_length, Nat.le_refl, hce, hv0, hv3, hv1, hv2, hsh, htv, hml, hwc, htk, hm2, hsf131_N11, hcn] <;> exact rfl) (by simp (maxSteps := 1000000) only [go_sem, List.length_map, List.map_replicate, cnt_z, cls, bools, Int.one_mul, Nat.zero_add, tr_length, Nat.le_refl, hce, hv0, hv3, hv1, hv2, hsh, htv, hml, hwc, htk, hm2, hsf131_N11, hcn] <;> exact rfl) (fun z3 hz3 => ?_)
                refine AW.regR rfl (by simp (maxSteps := 1000000) only [go_sem, List.length_map, List.map_replicate, cnt_z, cls, bools, Int.one_mul, Nat.zero_add, tr_length, Nat.le_refl, hce, hv0, hv3, hv1, hv2, hsh, htv, hml, hwc, htk, hm2, hsf131_N11, hcn] <;> exact rfl) (by simp (disch := omega) only [go_sem, w64, wU, List.length_map, List.map_replicate, cnt_z, cls, bools, Int.one_mul, Nat.zero_add, tr_length, Nat.le_refl, hce, hv0, hv3, hv1, hv2, hsh, htv, hml, hwc, htk, hm2, hsf131_N11, hcn] <;> exact rfl) ?_
                refine AW.regR rfl (by simp (maxSteps := 1000000) only [go_sem, List.length_map, List.map_replicate, cnt_z, cls, bools, Int.one_mul, Nat.zero_add, tr_length, Nat.le_refl, hce, hv0, hv3, hv1, hv2, hsh, htv, hml, hwc, htk, hm2, hsf131_N11, hcn] <;> exact rfl) (by simp (disch := omega) only [go_sem, w64, wU, List.length_map, List.map_replicate, cnt_z, cls, bools, Int.one_mul, Nat.zero_add, tr_length, Nat.le_refl, hce, hv0, hv3, hv1, hv2, hsh, htv, hml, hwc, htk, hm2, hsf131_N11, hcn] <;> exact rfl) ?_
                refine AW.regR rfl (by simp (maxSteps := 1000000) only [go_sem, List.length_map, List.map_replicate, cnt_z, cls, bools, Int.one_mul, Nat.zero_add, tr_length, Nat.le_refl, hce, hv0, hv3, hv1, hv2, hsh, htv, hml, hwc, htk, hm2, hsf131_N11, hcn] <;> exact rfl) (by simp (disch := omega) only [go_sem, w64, wU, List.length_map, List.map_replicate, cnt_z, cls, bools, Int.one_mul, Nat.zero_add, tr_length, Nat.le_refl, hce, hv0, hv3, hv1, hv2, hsh, htv, hml, hwc, htk, hm2, hsf131_N11, hcn] <;> exact rfl) ?_
                refine icK.finQ rfl (by simp (maxSteps := 1000000) only [go_sem, List.length_map, List.map_replicate, cnt_z, cls, bools, Int.one_mul, Nat.zero_add, tr_length, Nat.le_refl, hce, hv0, hv3, hv1, hv2, hsh, htv, hml, hwc, htk, hm2, hsf131_N11, hcn] <;> exact rfl) (by simp (maxSteps := 1000000) only [go_sem, List.length_map, List.map_replicate, cnt_z, cls, bools, Int.one_mul, Nat.zero_add, tr_length, Nat.le_refl, hce, hv0, hv3, hv1, hv2, hsh, htv, hml, hwc, htk, hm2, hsf131_N11, hcn] <;> exact rfl) ?_
                refine AWL.runG (by simp (maxSteps := 1000000) only [go_sem, List.length_map, List.map_replicate, cnt_z, cls, bools, Int.one_mul, Nat.zero_add, tr_length, Nat.le_refl, hce, hv0, hv3, hv1, hv2, hsh, htv, hml, hwc, htk, hm2, hsf131_N11, hcn] <;> exact rfl) ?_
                refine AWL.fin (by simp (disch := omega) only [go_sem, w64, wU, List.length_map, List.map_replicate, cnt_z, cls, bools, Int.one_mul, Nat.zero_add, tr_length, Nat.le_refl, hce, hv0, hv3, hv1, hv2, hsh, htv, hml, hwc, htk, hm2, hsf131_N11, hcn] <;> exact rfl) ?_
                refine AW.condF (by simp (maxSteps := 1000000) only [go_sem, List.length_map, List.map_replicate, cnt_z, cls, bools, Int.one_mul, Nat.zero_add, tr_length, Nat.le_refl, hce, hv0, hv3, hv1, hv2, hsh, htv, hml, hwc, htk, hm2, hsf131_N11, hcn] <;> exact rfl) ?_
                refine AW.skip ?_
                show AW _ _ _ _ _
                refine AW.regR1 rfl (by simp (maxSteps := 1000000) only [go_sem, List.length_map, List.map_replicate, cnt_z, cls, bools, Int.one_mul, Nat.zero_add, tr_length, Nat.le_refl, hce, hv0, hv3, hv1, hv2, hsh, htv, hml, hwc, htk, hm2, hsf131_N11, hcn] <;> exact rfl) (by simp (disch := omega) only [go_sem, w64, wU, List.length_map, List.map_replicate, cnt_z, cls, bools, Int.one_mul, Nat.zero_add, tr_length, Nat.le_refl, hce, hv0, hv3, hv1, hv2, hsh, htv, hml, hwc, htk, hm2, hsf131_N11, hcn] <;> exact rfl) ?_
                refine ⟨(tr vars.toNat n, n + 1), ?_, ?_, ?_⟩
                · (try dsimp only); omega
                · exact ⟨by omega, by omega, tr_length _ _⟩
                · refine Wk.subE ?_ ?_
                  · simp (maxSteps := 1000000) (disch := omega) only [go_sem, w64, wU, List.length_map, List.map_replicate, cnt_z, cls, bools, Int.one_mul, Nat.zero_add, tr_length, Nat.le_refl, hce, hv0, hv3, hv1, hv2, hsh, htv, hml, hwc, htk, hm2, hsf131_N11, hcn]
                  · simp (maxSteps := 1000000) (disch := omega) only [go_sem, w64, wU, List.length_map, List.map_replicate, cnt_z, cls, bools, Int.one_mul, Nat.zero_add, tr_length, Nat.le_refl, hce, hv0, hv3, hv1, hv2, hsh, htv, hml, hwc, htk, hm2, hsf131_N11, hcn]
              · have hcn := cnt_no (k := vars.toNat) (l := l) h1 hsf131_N11
                have hbf131_N11 := decide_eq_false hsf131_N11
                refine AW.regL ?_
                refine AWL.runG (by simp (maxSteps := 1000000) only [go_sem, List.length_map, List.map_replicate, cnt_z, cls, bools, Int.one_mul, Nat.zero_add, tr_length, Nat.le_refl, hce, hv0, hv3, hv1, hv2, hsh, htv, hml, hwc, htk, hm2, hbf131_N11, hcn] <;> exact rfl) ?_
                refine AWL.pcallB2 (c86 l false (tr vars.toNat n) hl) rfl (by simp (maxSteps := 1000000) only [go_sem, List.length_map, List.map_replicate, cnt_z, cls, bools, Int.one_mul, Nat.zero_add, tr_length, Nat.le_refl, hce, hv0, hv3, hv1, hv2, hsh, htv, hml, hwc, htk, hm2, hbf131_N11, hcn] <;> exact rfl) rfl (by simp (maxSteps := 1000000) only [go_sem, List.length_map, List.map_replicate, cnt_z, cls, bools, Int.one_mul, Nat.zero_add, tr_length, Nat.le_refl, hce, hv0, hv3, hv1, hv2, hsh, htv, hml, hwc, htk, hm2, hbf131_N11, hcn] <;> exact rfl) (by simp (maxSteps := 1000000) only [go_sem, List.length_map, List.map_replicate, cnt_z, cls, bools, Int.one_mul, Nat.zero_add, tr_length, Nat.le_refl, hce, hv0, hv3, hv1, hv2, hsh, htv, hml, hwc, htk, hm2, hbf131_N11, hcn] <;> exact rfl) ?_
                refine AWL.runG (by simp (maxSteps := 1000000) only [go_sem, List.length_map, List.map_replicate, cnt_z, cls, bools, Int.one_mul, Nat.zero_add, tr_length, Nat.le_refl, hce, hv0, hv3, hv1, hv2, hsh, htv, hml, hwc, htk, hm2, hbf131_N11, hcn] <;> exact rfl) ?_
                refine AWL.fin (by simp (disch := omega) only [go_sem, w64, wU, List.length_map, List.map_replicate, cnt_z, cls, bools, Int.one_mul, Nat.zero_add, tr_length, Nat.le_refl, hce, hv0, hv3, hv1, hv2, hsh, htv, hml, hwc, htk, hm2, hbf131_N11, hcn] <;> exact rfl) ?_
                refine AW.condF (by simp (maxSteps := 1000000) only [go_sem, List.length_map, List.map_replicate, cnt_z, cls, bools, Int.one_mul, Nat.zero_add, tr_length, Nat.le_refl, hce, hv0, hv3, hv1, hv2, hsh, htv, hml, hwc, htk, hm2, hbf131_N11, hcn] <;> exact rfl) ?_
                refine AW.skip ?_
                show AW _ _ _ _ _
                refine AW.reg rfl ?_
                refine ARN.run1S (by simp (maxSteps := 1000000) only [go_sem, List.length_map, List.map_replicate, cnt_z, cls, bools, Int.one_mul, Nat.zero_add, tr_length, Nat.le_refl, hce, hv0, hv3, hv1, hv2, hsh, htv, hml, hwc, htk, hm2, hbf131_N11, hcn] <;> exact rfl) ?_
                refine ARN.fin1 (by simp (disch := omega) only [go_sem, w64, wU, List.length_map, List.map_replicate, cnt_z, cls, bools, Int.one_mul, Nat.zero_add, tr_length, Nat.le_refl, hce, hv0, hv3, hv1, hv2, hsh, htv, hml, hwc, htk, hm2, hbf131_N11, hcn] <;> exact rfl) ?_
                refine ⟨(tr vars.toNat n, n + 1), ?_, ?_, ?_⟩
                · (try dsimp only); omega
                · exact ⟨by omega, by omega, tr_length _ _⟩
                · refine Wk.subE ?_ ?_
                  · simp (maxSteps := 1000000) (disch := omega) only [go_sem, w64, wU, List.length_map, List.map_replicate, cnt_z, cls, bools, Int.one_mul, Nat.zero_add, tr_length, Nat.le_refl, hce, hv0, hv3, hv1, hv2, hsh, htv, hml, hwc, htk, hm2, hbf131_N11, hcn]
                  · simp (maxSteps := 1000000) (disch := omega) only [go_sem, w64, wU, List.length_map, List.map_replicate, cnt_z, cls, bools, Int.one_mul, Nat.zero_add, tr_length, Nat.le_refl, hce, hv0, hv3, hv1, hv2, hsh, htv, hml, hwc, htk, hm2, hbf131_N11, hcn]
        · try simp only [decide_eq_true_eq, decide_eq_false_iff_not, Bool.or_eq_true, Bool.or_eq_false_iff, Bool.and_eq_true, Bool.and_eq_false_imp, Bool.not_eq_true', Bool.not_eq_false'] at hc3
          refine AW.exit ?_
          show AW _ _ _ _ _
          refine AW.regS rfl ?_
          refine ARN.run1S (by simp (maxSteps := 1000000) only [go_sem, List.length_map, List.map_replicate, cnt_z, cls, bools, Int.one_mul, Nat.zero_add, tr_length, Nat.le_refl, hce, hv0, hv3, hv1, hv2, hsh, htv] <;> exact rfl) ?_
          refine ARN.fin (by simp (disch := omega) only [go_sem, w64, wU, List.length_map, List.map_replicate, cnt_z, cls, bools, Int.one_mul, Nat.zero_add, tr_length, Nat.le_refl, hce, hv0, hv3, hv1, hv2, hsh, htv] <;> exact rfl) ?_
          refine icK.finQ rfl (by simp (maxSteps := 1000000) only [go_sem, List.length_map, List.map_replicate, cnt_z, cls, bools, Int.one_mul, Nat.zero_add, tr_length, Nat.le_refl, hce, hv0, hv3, hv1, hv2, hsh, htv] <;> exact rfl) (by simp (maxSteps := 1000000) only [go_sem, List.length_map, List.map_replicate, cnt_z, cls, bools, Int.one_mul, Nat.zero_add, tr_length, Nat.le_refl, hce, hv0, hv3, hv1, hv2, hsh, htv] <;> exact rfl) ?_
          refine AWL.runG (by simp (maxSteps := 1000000) only [go_sem, List.length_map, List.map_replicate, cnt_z, cls, bools, Int.one_mul, Nat.zero_add, tr_length, Nat.le_refl, hce, hv0, hv3, hv1, hv2, hsh, htv] <;> exact rfl) ?_
          refine AWL.fin (by simp (disch := omega) only [go_sem, w64, wU, List.length_map, List.map_replicate, cnt_z, cls, bools, Int.one_mul, Nat.zero_add, tr_length, Nat.le_refl, hce, hv0, hv3, hv1, hv2, hsh, htv] <;> exact rfl) ?_
          refine AW.regS rfl ?_
          refine ARN.run1S (by simp (maxSteps := 1000000) only [go_sem, List.length_map, List.map_replicate, cnt_z, cls, bools, Int.one_mul, Nat.zero_add, tr_length, Nat.le_refl, hce, hv0, hv3, hv1, hv2, hsh, htv] <;> exact rfl) ?_
          refine ARN.fin (by simp (disch := omega) only [go_sem, w64, wU, List.length_map, List.map_replicate, cnt_z, cls, bools, Int.one_mul, Nat.zero_add, tr_length, Nat.le_refl, hce, hv0, hv3, hv1, hv2, hsh, htv] <;> exact rfl) ?_
          refine retK.fin rfl (by simp (maxSteps := 1000000) only [go_sem, List.length_map, List.map_replicate, cnt_z, cls, bools, Int.one_mul, Nat.zero_add, tr_length, Nat.le_refl, hce, hv0, hv3, hv1, hv2, hsh, htv] <;> exact rfl) (by simp (maxSteps := 1000000) only [go_sem, List.length_map, List.map_replicate, cnt_z, cls, bools, Int.one_mul, Nat.zero_add, tr_length, Nat.le_refl, hce, hv0, hv3, hv1, hv2, hsh, htv] <;> exact rfl) (.of ?_)
          have e : mayC vars l = 0 := by (unfold mayC; rw [if_pos hc1, if_neg hc2])
          unfold cntV; rw [if_pos e, e, hN, show n.toNat = N by omega]
theorem c90 (vars : Int) (l : List (List Int)) (hl : Wf l) : PC Try.prog 90 [.int .i64 vars, cls l] (.tup [bools false (mF vars l), .bool (okF vars l), .int .i64 (mayC vars l)]) := by
  refine PC.start 27 Try.call90 Try.func90 rfl Try.ntmps90 Try.results90 (by simp only [go_sem]; exact rfl) fun z hz => ?_
  refine AW.regR rfl (by simp (maxSteps := 1000000) only [go_sem, List.length_map, List.map_replicate, fst_z, cls, bools, Int.one_mul, Nat.zero_add, tr_length, Nat.le_refl, List.length_replicate] <;> exact rfl) (by simp (disch := omega) only [go_sem, w64, wU, List.length_map, List.map_replicate, fst_z, cls, bools, Int.one_mul, Nat.zero_add, tr_length, Nat.le_refl, List.length_replicate] <;> exact rfl) ?_
  refine AW.regR rfl (by simp (maxSteps := 1000000) only [go_sem, List.length_map, List.map_replicate, fst_z, cls, bools, Int.one_mul, Nat.zero_add, tr_length, Nat.le_refl, List.length_replicate] <;> exact rfl) (by simp (disch := omega) only [go_sem, w64, wU, List.length_map, List.map_replicate, fst_z, cls, bools, Int.one_mul, Nat.zero_add, tr_length, Nat.le_refl, List.length_replicate] <;> exact rfl) ?_
  refine AW.regL ?_
  refine AWL.runG (by simp (maxSteps := 1000000) only [go_sem, List.length_map, List.map_replicate, fst_z, cls, bools, Int.one_mul, Nat.zero_add, tr_length, Nat.le_refl, List.length_replicate] <;> exact rfl) ?_
  refine AWL.icall2 rfl (by simp (maxSteps := 1000000) only [go_sem, List.length_map, List.map_replicate, fst_z, cls, bools, Int.one_mul, Nat.zero_add, tr_length, Nat.le_refl, List.length_replicate] <;> exact rfl) (by simp (maxSteps := 1000000) only [go_sem, List.length_map, List.map_replicate, fst_z, cls, bools, Int.one_mul, Nat.zero_add, tr_length, Nat.le_refl, List.length_replicate] <;> exact rfl) Try.call131 Try.func131 rfl Try.ntmps131 Try.results131 (by simp (maxSteps := 1000000) only [go_sem, List.length_map, List.map_replicate, fst_z, cls, bools, Int.one_mul, Nat.zero_add, tr_length, Nat.le_refl, List.length_replicate] <;> exact rfl) (by simp (maxSteps := 1000000) only [go_sem, List.length_map, List.map_replicate, fst_z, cls, bools, Int.one_mul, Nat.zero_add, tr_length, Nat.le_refl, List.length_replicate] <;> exact rfl) (fun z1 hz1 => ?_)
  refine AW.regR rfl (by simp (maxSteps := 1000000) only [go_sem, List.length_map, List.map_replicate, fst_z, cls, bools, Int.one_mul, Nat.zero_add, tr_length, Nat.le_refl, List.length_replicate] <;> exact rfl) (by simp (disch := omega) only [go_sem, w64, wU, List.length_map, List.map_replicate, fst_z, cls, bools, Int.one_mul, Nat.zero_add, tr_length, Nat.le_refl, List.length_replicate] <;> exact rfl) ?_
  refine AW.seq ?_
  refine AW.regS rfl ?_
  refine ARN.run1 (by simp (maxSteps := 1000000) only [go_sem, List.length_map, List.map_replicate, fst_z, cls, bools, Int.one_mul, Nat.zero_add, tr_length, Nat.le_refl, List.length_replicate] <;> exact rfl) ?_
  refine ARN.pcall (fun hp => c84 vars l hl) rfl (by simp (maxSteps := 1000000) only [go_sem, List.length_map, List.map_replicate, fst_z, cls, bools, Int.one_mul, Nat.zero_add, tr_length, Nat.le_refl, List.length_replicate] <;> exact rfl) (by simp only [go_sem]) (by simp (maxSteps := 1000000) only [go_sem, List.length_map, List.map_replicate, fst_z, cls, bools, Int.one_mul, Nat.zero_add, tr_length, Nat.le_refl, List.length_replicate] <;> exact rfl) ?_
  refine ARN.run1 (by simp (maxSteps := 1000000) only [go_sem, List.length_map, List.map_replicate, fst_z, cls, bools, Int.one_mul, Nat.zero_add, tr_length, Nat.le_refl, List.length_replicate] <;> exact rfl) ?_
  refine ARN.fin (by simp (disch := omega) only [go_sem, w64, wU, List.length_map, List.map_replicate, fst_z, cls, bools, Int.one_mul, Nat.zero_add, tr_length, Nat.le_refl, List.length_replicate] <;> exact rfl) ?_
  refine AW.regR rfl (by simp (maxSteps := 1000000) only [go_sem, List.length_map, List.map_replicate, fst_z, cls, bools, Int.one_mul, Nat.zero_add, tr_length, Nat.le_refl, List.length_replicate] <;> exact rfl) (by simp (disch := omega) only [go_sem, w64, wU, List.length_map, List.map_replicate, fst_z, cls, bools, Int.one_mul, Nat.zero_add, tr_length, Nat.le_refl, List.length_replicate] <;> exact rfl) ?_
  refine AW.cond (by simp (maxSteps := 1000000) only [go_sem, List.length_map, List.map_replicate, fst_z, cls, bools, Int.one_mul, Nat.zero_add, tr_length, Nat.le_refl, List.length_replicate] <;> exact rfl) (fun hc1 => ?_) (fun hc1 => ?_)
  · try simp only [decide_eq_true_eq, decide_eq_false_iff_not, Bool.or_eq_true, Bool.or_eq_false_iff, Bool.and_eq_true, Bool.and_eq_false_imp, Bool.not_eq_true', Bool.not_eq_false'] at hc1
    have hce : (chkC vars l = 0) = False := eq_false hc1
    refine AW.regR rfl (by simp (maxSteps := 1000000) only [go_sem, List.length_map, List.map_replicate, fst_z, cls, bools, Int.one_mul, Nat.zero_add, tr_length, Nat.le_refl, List.length_replicate, hce] <;> exact rfl) (by simp (disch := omega) only [go_sem, w64, wU, List.length_map, List.map_replicate, fst_z, cls, bools, Int.one_mul, Nat.zero_add, tr_length, Nat.le_refl, List.length_replicate, hce] <;> exact rfl) ?_
    refine icK.finQ rfl (by simp (maxSteps := 1000000) only [go_sem, List.length_map, List.map_replicate, fst_z, cls, bools, Int.one_mul, Nat.zero_add, tr_length, Nat.le_refl, List.length_replicate, hce] <;> exact rfl) (by simp (maxSteps := 1000000) only [go_sem, List.length_map, List.map_replicate, fst_z, cls, bools, Int.one_mul, Nat.zero_add, tr_length, Nat.le_refl, List.length_replicate, hce] <;> exact rfl) ?_
    refine AWL.runG (by simp (maxSteps := 1000000) only [go_sem, List.length_map, List.map_replicate, fst_z, cls, bools, Int.one_mul, Nat.zero_add, tr_length, Nat.le_refl, List.length_replicate, hce] <;> exact rfl) ?_
    refine AWL.fin (by simp (disch := omega) only [go_sem, w64, wU, List.length_map, List.map_replicate, fst_z, cls, bools, Int.one_mul, Nat.zero_add, tr_length, Nat.le_refl, List.length_replicate, hce] <;> exact rfl) ?_
    refine AW.seq ?_
    refine AW.regR rfl (by simp (maxSteps := 1000000) only [go_sem, List.length_map, List.map_replicate, fst_z, cls, bools, Int.one_mul, Nat.zero_add, tr_length, Nat.le_refl, List.length_replicate, hce] <;> exact rfl) (by simp (disch := omega) only [go_sem, w64, wU, List.length_map, List.map_replicate, fst_z, cls, bools, Int.one_mul, Nat.zero_add, tr_length, Nat.le_refl, List.length_replicate, hce] <;> exact rfl) ?_
    refine AW.condT (by simp (maxSteps := 1000000) only [go_sem, List.length_map, List.map_replicate, fst_z, cls, bools, Int.one_mul, Nat.zero_add, tr_length, Nat.le_refl, List.length_replicate, hce] <;> exact rfl) ?_
    refine AW.regR rfl (by simp (maxSteps := 1000000) only [go_sem, List.length_map, List.map_replicate, fst_z, cls, bools, Int.one_mul, Nat.zero_add, tr_length, Nat.le_refl, List.length_replicate, hce] <;> exact rfl) (by simp (disch := omega) only [go_sem, w64, wU, List.length_map, List.map_replicate, fst_z, cls, bools, Int.one_mul, Nat.zero_add, tr_length, Nat.le_refl, List.length_replicate, hce] <;> exact rfl) ?_
    refine retK.fin rfl (by simp (maxSteps := 1000000) only [go_sem, List.length_map, List.map_replicate, fst_z, cls, bools, Int.one_mul, Nat.zero_add, tr_length, Nat.le_refl, List.length_replicate, hce] <;> exact rfl) (by simp (maxSteps := 1000000) only [go_sem, List.length_map, List.map_replicate, fst_z, cls, bools, Int.one_mul, Nat.zero_add, tr_length, Nat.le_refl, List.length_replicate, hce] <;> exact rfl) ?_
    have hm : mayC vars l = chkC vars l := by (unfold mayC; rw [if_neg hc1])
    have ho : okF vars l = false := by simp [okF, hm, hc1]
    rw [hm]
    refine Sub.tup ⟨?_, ?_, Sub.refl _, trivial⟩
    · simp only [mF, ho, bools]; exact Sub.nil0 0 1 true
    · rw [ho]; exact Sub.refl _
  · try simp only [decide_eq_true_eq, decide_eq_false_iff_not, Bool.or_eq_true, Bool.or_eq_false_iff, Bool.and_eq_true, Bool.and_eq_false_imp, Bool.not_eq_true', Bool.not_eq_false'] at hc1
    have hce : chkC vars l = 0 := hc1
    refine AW.skip ?_
    show AW _ _ _ _ _
    refine AW.seq ?_
    refine AW.regR rfl (by simp (maxSteps := 1000000) only [go_sem, List.length_map, List.map_replicate, fst_z, cls, bools, Int.one_mul, Nat.zero_add, tr_length, Nat.le_refl, List.length_replicate, hce] <;> exact rfl) (by simp (disch := omega) only [go_sem, w64, wU, List.length_map, List.map_replicate, fst_z, cls, bools, Int.one_mul, Nat.zero_add, tr_length, Nat.le_refl, List.length_replicate, hce] <;> exact rfl) ?_
    refine AW.cond (by simp (maxSteps := 1000000) only [go_sem, List.length_map, List.map_replicate, fst_z, cls, bools, Int.one_mul, Nat.zero_add, tr_length, Nat.le_refl, List.length_replicate, hce] <;> exact rfl) (fun hc3 => ?_) (fun hc3 => ?_)
    · try simp only [decide_eq_true_eq, decide_eq_false_iff_not, Bool.or_eq_true, Bool.or_eq_false_iff, Bool.and_eq_true, Bool.and_eq_false_imp, Bool.not_eq_true', Bool.not_eq_false'] at hc3
      refine AW.regR rfl (by simp (maxSteps := 1000000) only [go_sem, List.length_map, List.map_replicate, fst_z, cls, bools, Int.one_mul, Nat.zero_add, tr_length, Nat.le_refl, List.length_replicate, hce] <;> exact rfl) (by simp (disch := omega) only [go_sem, w64, wU, List.length_map, List.map_replicate, fst_z, cls, bools, Int.one_mul, Nat.zero_add, tr_length, Nat.le_refl, List.length_replicate, hce] <;> exact rfl) ?_
      refine icK.finQ rfl (by simp (maxSteps := 1000000) only [go_sem, List.length_map, List.map_replicate, fst_z, cls, bools, Int.one_mul, Nat.zero_add, tr_length, Nat.le_refl, List.length_replicate, hce] <;> exact rfl) (by simp (maxSteps := 1000000) only [go_sem, List.length_map, List.map_replicate, fst_z, cls, bools, Int.one_mul, Nat.zero_add, tr_length, Nat.le_refl, List.length_replicate, hce] <;> exact rfl) ?_
      refine AWL.runG (by simp (maxSteps := 1000000) only [go_sem, List.length_map, List.map_replicate, fst_z, cls, bools, Int.one_mul, Nat.zero_add, tr_length, Nat.le_refl, List.length_replicate, hce] <;> exact rfl) ?_
      refine AWL.fin (by simp (disch := omega) only [go_sem, w64, wU, List.length_map, List.map_replicate, fst_z, cls, bools, Int.one_mul, Nat.zero_add, tr_length, Nat.le_refl, List.length_replicate, hce] <;> exact rfl) ?_
      refine AW.seq ?_
      refine AW.regR rfl (by simp (maxSteps := 1000000) only [go_sem, List.length_map, List.map_replicate, fst_z, cls, bools, Int.one_mul, Nat.zero_add, tr_length, Nat.le_refl, List.length_replicate, hce] <;> exact rfl) (by simp (disch := omega) only [go_sem, w64, wU, List.length_map, List.map_replicate, fst_z, cls, bools, Int.one_mul, Nat.zero_add, tr_length, Nat.le_refl, List.length_replicate, hce] <;> exact rfl) ?_
      refine AW.condT (by simp (maxSteps := 1000000) only [go_sem, List.length_map, List.map_replicate, fst_z, cls, bools, Int.one_mul, Nat.zero_add, tr_length, Nat.le_refl, List.length_replicate, hce] <;> exact rfl) ?_
      refine AW.regR rfl (by simp (maxSteps := 1000000) only [go_sem, List.length_map, List.map_replicate, fst_z, cls, bools, Int.one_mul, Nat.zero_add, tr_length, Nat.le_refl, List.length_replicate, hce] <;> exact rfl) (by simp (disch := omega) only [go_sem, w64, wU, List.length_map, List.map_replicate, fst_z, cls, bools, Int.one_mul, Nat.zero_add, tr_length, Nat.le_refl, List.length_replicate, hce] <;> exact rfl) ?_
      refine retK.fin rfl (by simp (maxSteps := 1000000) only [go_sem, List.length_map, List.map_replicate, fst_z, cls, bools, Int.one_mul, Nat.zero_add, tr_length, Nat.le_refl, List.length_replicate, hce] <;> exact rfl) (by simp (maxSteps := 1000000) only [go_sem, List.length_map, List.map_replicate, fst_z, cls, bools, Int.one_mul, Nat.zero_add, tr_length, Nat.le_refl, List.length_replicate, hce] <;> exact rfl) ?_
      have hm : mayC vars l = 8 := by (unfold mayC; rw [if_pos hc1, if_pos hc3])
      have ho : okF vars l = false := by simp [okF, hm]
      rw [hm]
      refine Sub.tup ⟨?_, ?_, Sub.refl _, trivial⟩
      · simp only [mF, ho, bools]; exact Sub.nil0 0 1 true
      · rw [ho]; exact Sub.refl _
    · try simp only [decide_eq_true_eq, decide_eq_false_iff_not, Bool.or_eq_true, Bool.or_eq_false_iff, Bool.and_eq_true, Bool.and_eq_false_imp, Bool.not_eq_true', Bool.not_eq_false'] at hc3
      refine AW.skip ?_
      show AW _ _ _ _ _
      have hv := may_rng (vars := vars) (l := l) (by unfold mayC; rw [if_pos hc1, if_neg hc3])
      have hN2 := pow_le hv.2; generalize hN : 2 ^ vars.toNat = N at hN2
      have hv0 : 0 ≤ vars := hv.1
      have hv3 : ¬ (vars < 0) := by omega
      have hv1 : vars ≤ 281474976710656 := by omega
      have hv2 : vars ≤ 9223372036854775807 := by omega
      have hsh : ishl .i64 1 vars = (N : Int) := shl_one hv hN.symm
      have htv : ((vars.toNat : Nat) : Int) = vars := tN hv.1
      refine AW.regR rfl (by simp (maxSteps := 1000000) only [go_sem, List.length_map, List.map_replicate, fst_z, cls, bools, Int.one_mul, Nat.zero_add, tr_length, Nat.le_refl, List.length_replicate, hce, hv0, hv3, hv1, hv2, hsh, htv] <;> exact rfl) (by simp (disch := omega) only [go_sem, w64, wU, List.length_map, List.map_replicate, fst_z, cls, bools, Int.one_mul, Nat.zero_add, tr_length, Nat.le_refl, List.length_replicate, hce, hv0, hv3, hv1, hv2, hsh, htv] <;> exact rfl) ?_
      refine AW.seq ?_
      refine AW.regR rfl (by simp (maxSteps := 1000000) only [go_sem, List.length_map, List.map_replicate, fst_z, cls, bools, Int.one_mul, Nat.zero_add, tr_length, Nat.le_refl, List.length_replicate, hce, hv0, hv3, hv1, hv2, hsh, htv] <;> exact rfl) (by simp (disch := omega) only [go_sem, w64, wU, List.length_map, List.map_replicate, fst_z, cls, bools, Int.one_mul, Nat.zero_add, tr_length, Nat.le_refl, List.length_replicate, hce, hv0, hv3, hv1, hv2, hsh, htv] <;> exact rfl) ?_
      refine AW.block ?_
      refine AW.loopV (α := (List Bool) × (Int)) (fun ((m, n) : (List Bool) × (Int)) => [(22, .pv (.int .i64 n))]) (fun ((m, n) : (List Bool) × (Int)) => [.box [.pv (.int .i64 (-1))], .vec 1 (m.map fun x => [.bool x])]) (fun ((m, n) : (List Bool) × (Int)) => (0 ≤ n) ∧ (n ≤ (N : Int)) ∧ (m.length = vars.toNat) ∧ (fst vars.toNat l n.toNat = -1)) (fun ((m, n) : (List Bool) × (Int)) => ((N : Int) - n).toNat) (List.replicate vars.toNat false, 0) ?_ ?_ ?_
      · exact ⟨by omega, by omega, by simp, rfl⟩
      · refine Wk.subE ?_ ?_
        · simp (maxSteps := 1000000) (disch := omega) only [go_sem, w64, wU, List.length_map, List.map_replicate, fst_z, cls, bools, Int.one_mul, Nat.zero_add, tr_length, Nat.le_refl, List.length_replicate, hce, hv0, hv3, hv1, hv2, hsh, htv]
        · simp (maxSteps := 1000000) (disch := omega) only [go_sem, w64, wU, List.length_map, List.map_replicate, fst_z, cls, bools, Int.one_mul, Nat.zero_add, tr_length, Nat.le_refl, List.length_replicate, hce, hv0, hv3, hv1, hv2, hsh, htv]
      · rintro ⟨m, n⟩ hF _ ht _ hh
        simp only [updT, go_sem] at ht hh
        subst ht; subst hh
        obtain ⟨h1, h2, h3, h4⟩ := hF
        refine AW.regR rfl (by simp (maxSteps := 1000000) only [go_sem, List.length_map, List.map_replicate, fst_z, cls, bools, Int.one_mul, Nat.zero_add, tr_length, Nat.le_refl, List.length_replicate, hce, hv0, hv3, hv1, hv2, hsh, htv] <;> exact rfl) (by simp (disch := omega) only [go_sem, w64, wU, List.length_map, List.map_replicate, fst_z, cls, bools, Int.one_mul, Nat.zero_add, tr_length, Nat.le_refl, List.length_replicate, hce, hv0, hv3, hv1, hv2, hsh, htv] <;> exact rfl) ?_
        refine AW.seq ?_
        refine AW.cond (by simp (maxSteps := 1000000) only [go_sem, List.length_map, List.map_replicate, fst_z, cls, bools, Int.one_mul, Nat.zero_add, tr_length, Nat.le_refl, List.length_replicate, hce, hv0, hv3, hv1, hv2, hsh, htv] <;> exact rfl) (fun hc5 => ?_) (fun hc5 => ?_)
        · try simp only [decide_eq_true_eq, decide_eq_false_iff_not, Bool.or_eq_true, Bool.or_eq_false_iff, Bool.and_eq_true, Bool.and_eq_false_imp, Bool.not_eq_true', Bool.not_eq_false'] at hc5
          refine AW.skip ?_
          show AW _ _ _ _ _
          refine AW.seq ?_
          refine AW.block ?_
          have hml0 := h3
          have hml : m.length = vars.toNat := h3
          refine AW.regR rfl (by simp (maxSteps := 1000000) only [go_sem, List.length_map, List.map_replicate, fst_z, cls, bools, Int.one_mul, Nat.zero_add, tr_length, Nat.le_refl, List.length_replicate, hce, hv0, hv3, hv1, hv2, hsh, htv, hml] <;> exact rfl) (by simp (disch := omega) only [go_sem, w64, wU, List.length_map, List.map_replicate, fst_z, cls, bools, Int.one_mul, Nat.zero_add, tr_length, Nat.le_refl, List.length_replicate, hce, hv0, hv3, hv1, hv2, hsh, htv, hml] <;> exact rfl) ?_
          refine AW.regL ?_
          refine AWL.runG (by simp (maxSteps := 1000000) only [go_sem, List.length_map, List.map_replicate, fst_z, cls, bools, Int.one_mul, Nat.zero_add, tr_length, Nat.le_refl, List.length_replicate, hce, hv0, hv3, hv1, hv2, hsh, htv, hml] <;> exact rfl) ?_
          refine AWL.icall2 rfl (by simp (maxSteps := 1000000) only [go_sem, List.length_map, List.map_replicate, fst_z, cls, bools, Int.one_mul, Nat.zero_add, tr_length, Nat.le_refl, List.length_replicate, hce, hv0, hv3, hv1, hv2, hsh, htv, hml] <;> exact rfl) (by simp (maxSteps := 1000000) only [go_sem, List.length_map, List.map_replicate, fst_z, cls, bools, Int.one_mul, Nat.zero_add, tr_length, Nat.le_refl, List.length_replicate, hce, hv0, hv3, hv1, hv2, hsh, htv, hml] <;> exact rfl) Try.call136 Try.func136 rfl Try.ntmps136 Try.results136 (by simp (maxSteps := 1000000) only [go_sem, List.length_map, List.map_replicate, fst_z, cls, bools, Int.one_mul, Nat.zero_add, tr_length, Nat.le_refl, List.length_replicate, hce, hv0, hv3, hv1, hv2, hsh, htv, hml] <;> exact rfl) (by simp (maxSteps := 1000000) only [go_sem, List.length_map, List.map_replicate, fst_z, cls, bools, Int.one_mul, Nat.zero_add, tr_length, Nat.le_refl, List.length_replicate, hce, hv0, hv3, hv1, hv2, hsh, htv, hml] <;> exact rfl) (fun z2 hz2 => ?_)
          refine AW.regR rfl (by simp (maxSteps := 1000000) only [go_sem, List.length_map, List.map_replicate, fst_z, cls, bools, Int.one_mul, Nat.zero_add, tr_length, Nat.le_refl, List.length_replicate, hce, hv0, hv3, hv1, hv2, hsh, htv, hml] <;> exact rfl) (by simp (disch := omega) only [go_sem, w64, wU, List.length_map, List.map_replicate, fst_z, cls, bools, Int.one_mul, Nat.zero_add, tr_length, Nat.le_refl, List.length_replicate, hce, hv0, hv3, hv1, hv2, hsh, htv, hml] <;> exact rfl) ?_
          refine AW.block ?_
          refine AW.loopV (α := (List Bool) × (Int)) (fun ((m2, v) : (List Bool) × (Int)) => [(7, .pv (.int .i64 v))]) (fun ((m2, v) : (List Bool) × (Int)) => [.box [.pv (.int .i64 (-1))], .vec 1 (m2.map fun x => [.bool x])]) (fun ((m2, v) : (List Bool) × (Int)) => (0 ≤ v) ∧ (v ≤ vars) ∧ (m2.length = vars.toNat) ∧ (∀ j : Nat, (j : Int) < v → m2[j]? = (tr vars.toNat n)[j]?)) (fun ((m2, v) : (List Bool) × (Int)) => (vars - v).toNat) (m, 0) ?_ ?_ ?_
          · exact ⟨by omega, by omega, h3, fun j hj => by omega⟩
          · refine Wk.subE ?_ ?_
            · simp (maxSteps := 1000000) (disch := omega) only [go_sem, w64, wU, List.length_map, List.map_replicate, fst_z, cls, bools, Int.one_mul, Nat.zero_add, tr_length, Nat.le_refl, List.length_replicate, hce, hv0, hv3, hv1, hv2, hsh, htv, hml]
            · simp (maxSteps := 1000000) (disch := omega) only [go_sem, w64, wU, List.length_map, List.map_replicate, fst_z, cls, bools, Int.one_mul, Nat.zero_add, tr_length, Nat.le_refl, List.length_replicate, hce, hv0, hv3, hv1, hv2, hsh, htv, hml]
          · rintro ⟨m2, v⟩ hF _ ht _ hh
            simp only [updT, go_sem] at ht hh
            subst ht; subst hh
            obtain ⟨b1, b2, b3, b4⟩ := hF
            refine AW.regR rfl (by simp (maxSteps := 1000000) only [go_sem, List.length_map, List.map_replicate, fst_z, cls, bools, Int.one_mul, Nat.zero_add, tr_length, Nat.le_refl, List.length_replicate, hce, hv0, hv3, hv1, hv2, hsh, htv, hml] <;> exact rfl) (by simp (disch := omega) only [go_sem, w64, wU, List.length_map, List.map_replicate, fst_z, cls, bools, Int.one_mul, Nat.zero_add, tr_length, Nat.le_refl, List.length_replicate, hce, hv0, hv3, hv1, hv2, hsh, htv, hml] <;> exact rfl) ?_
            refine AW.seq ?_
            refine AW.cond (by simp (maxSteps := 1000000) only [go_sem, List.length_map, List.map_replicate, fst_z, cls, bools, Int.one_mul, Nat.zero_add, tr_length, Nat.le_refl, List.length_replicate, hce, hv0, hv3, hv1, hv2, hsh, htv, hml] <;> exact rfl) (fun hc6 => ?_) (fun hc6 => ?_)
            · try simp only [decide_eq_true_eq, decide_eq_false_iff_not, Bool.or_eq_true, Bool.or_eq_false_iff, Bool.and_eq_true, Bool.and_eq_false_imp, Bool.not_eq_true', Bool.not_eq_false'] at hc6
              have r1 : (m2.map fun x => [PV.bool x])[v.toNat]? = some [.bool (m2.getD v.toNat false)] := bools_at ⟨b1, by omega⟩
              have r2 : 0 ≤ v := b1
              have r3 : v < vars := hc6
              have r4 : ¬ v < 0 := by omega
              have r5 : decide (iand .i64 (ishr .i64 n v) 1 = 1) = decide (n / 2 ^ v.toNat % 2 = 1) := by rw [iand_1, ishr_i64 (by omega)]; rfl
              refine AW.skip ?_
              show AW _ _ _ _ _
              refine AW.seq ?_
              refine AW.block ?_
              refine AW.regR rfl (by simp (maxSteps := 1000000) only [go_sem, List.length_map, List.map_replicate, fst_z, cls, bools, Int.one_mul, Nat.zero_add, tr_length, Nat.le_refl, List.length_replicate, hce, hv0, hv3, hv1, hv2, hsh, htv, hml, r1, r2, r3, r4, r5] <;> exact rfl) (by simp (disch := omega) only [go_sem, w64, wU, List.length_map, List.map_replicate, fst_z, cls, bools, Int.one_mul, Nat.zero_add, tr_length, Nat.le_refl, List.length_replicate, hce, hv0, hv3, hv1, hv2, hsh, htv, hml, r1, r2, r3, r4, r5] <;> exact rfl) ?_
              refine AW.regR1 rfl (by simp (maxSteps := 1000000) only [go_sem, List.length_map, List.map_replicate, fst_z, cls, bools, Int.one_mul, Nat.zero_add, tr_length, Nat.le_refl, List.length_replicate, hce, hv0, hv3, hv1, hv2, hsh, htv, hml, r1, r2, r3, r4, r5] <;> exact rfl) (by simp (disch := omega) only [go_sem, w64, wU, List.length_map, List.map_replicate, fst_z, cls, bools, Int.one_mul, Nat.zero_add, tr_length, Nat.le_refl, List.length_replicate, hce, hv0, hv3, hv1, hv2, hsh, htv, hml, r1, r2, r3, r4, r5] <;> exact rfl) ?_
              show AW _ _ _ _ _
              refine AW.regR1 rfl (by simp (maxSteps := 1000000) only [go_sem, List.length_map, List.map_replicate, fst_z, cls, bools, Int.one_mul, Nat.zero_add, tr_length, Nat.le_refl, List.length_replicate, hce, hv0, hv3, hv1, hv2, hsh, htv, hml, r1, r2, r3, r4, r5] <;> exact rfl) (by simp (disch := omega) only [go_sem, w64, wU, List.length_map, List.map_replicate, fst_z, cls, bools, Int.one_mul, Nat.zero_add, tr_length, Nat.le_refl, List.length_replicate, hce, hv0, hv3, hv1, hv2, hsh, htv, hml, r1, r2, r3, r4, r5] <;> exact rfl) ?_
              refine ⟨(m2.set v.toNat (decide (n / 2 ^ v.toNat % 2 = 1)), v + 1), ?_, ?_, ?_⟩
              · (try dsimp only); omega
              · refine ⟨by omega, by omega, by simp [b3], fun j hj => ?_⟩
                by_cases e : j = v.toNat
                · subst e; rw [List.getElem?_set_self (by omega), tr_at _ (by omega)]
                · rw [List.getElem?_set_ne (fun h => e h.symm)]; exact b4 j (by omega)
              · refine Wk.subE ?_ ?_
                · simp (maxSteps := 1000000) (disch := omega) only [go_sem, w64, wU, List.length_map, List.map_replicate, fst_z, cls, bools, Int.one_mul, Nat.zero_add, tr_length, Nat.le_refl, List.length_replicate, hce, hv0, hv3, hv1, hv2, hsh, htv, hml, r1, r2, r3, r4, r5]
                · simp (maxSteps := 1000000) (disch := omega) only [go_sem, w64, wU, List.length_map, List.map_replicate, fst_z, cls, bools, Int.one_mul, Nat.zero_add, tr_length, Nat.le_refl, List.length_replicate, hce, hv0, hv3, hv1, hv2, hsh, htv, hml, r1, r2, r3, r4, r5]
            · try simp only [decide_eq_true_eq, decide_eq_false_iff_not, Bool.or_eq_true, Bool.or_eq_false_iff, Bool.and_eq_true, Bool.and_eq_false_imp, Bool.not_eq_true', Bool.not_eq_false'] at hc6
              have htk : List.take vars.toNat (List.map (fun x => [PV.bool x]) (tr vars.toNat n)) = List.map (fun x => [PV.bool x]) (tr vars.toNat n) := List.take_of_length_le (by simp [tr_length])
              have hm2 : m2 = tr vars.toNat n := List.ext_getElem? fun j => if hj : (j : Int) < v then b4 j hj else by rw [List.getElem?_eq_none (by omega), List.getElem?_eq_none (by rw [tr_length]; omega)]
              refine AW.exit ?_
              refine icK.finQ1 rfl (by simp (maxSteps := 1000000) only [go_sem, List.length_map, List.map_replicate, fst_z, cls, bools, Int.one_mul, Nat.zero_add, tr_length, Nat.le_refl, List.length_replicate, hce, hv0, hv3, hv1, hv2, hsh, htv, hml, htk, hm2] <;> exact rfl) (by simp (maxSteps := 1000000) only [go_sem, List.length_map, List.map_replicate, fst_z, cls, bools, Int.one_mul, Nat.zero_add, tr_length, Nat.le_refl, List.length_replicate, hce, hv0, hv3, hv1, hv2, hsh, htv, hml, htk, hm2] <;> exact rfl) ?_
              refine AWL.fin (by simp (disch := omega) only [go_sem, w64, wU, List.length_map, List.map_replicate, fst_z, cls, bools, Int.one_mul, Nat.zero_add, tr_length, Nat.le_refl, List.length_replicate, hce, hv0, hv3, hv1, hv2, hsh, htv, hml, htk, hm2] <;> exact rfl) ?_
              by_cases hsf131_N11 : fbI l (tr vars.toNat n) < 0
              · have hfn := fst_yes (k := vars.toNat) (l := l) h1 hsf131_N11 (by omega); have hn0 : ¬ n < 0 := by omega
                refine AW.regL ?_
                refine AWL.runG (by simp (maxSteps := 1000000) only [go_sem, List.length_map, List.map_replicate, fst_z, cls, bools, Int.one_mul, Nat.zero_add, tr_length, Nat.le_refl, List.length_replicate, hce, hv0, hv3, hv1, hv2, hsh, htv, hml, htk, hm2, hsf131_N11, hn0] <;> exact rfl) ?_
                refine AWL.pcallB2 (c86 l false (tr vars.toNat n) hl) rfl (by simp (maxSteps := 1000000) only [go_sem, List.length_map, List.map_replicate, fst_z, cls, bools, Int.one_mul, Nat.zero_add, tr_length, Nat.le_refl, List.length_replicate, hce, hv0, hv3, hv1, hv2, hsh, htv, hml, htk, hm2, hsf131_N11, hn0] <;> exact rfl) rfl (by simp (maxSteps := 1000000) only [go_sem, List.length_map, List.map_replicate, fst_z, cls, bools, Int.one_mul, Nat.zero_add, tr_length, Nat.le_refl, List.length_replicate, hce, hv0, hv3, hv1, hv2, hsh, htv, hml, htk, hm2, hsf131_N11, hn0] <;> exact rfl) (by simp (maxSteps := 1000000) only [go_sem, List.length_map, List.map_replicate, fst_z, cls, bools, Int.one_mul, Nat.zero_add, tr_length, Nat.le_refl, List.length_replicate, hce, hv0, hv3, hv1, hv2, hsh, htv, hml, htk, hm2, hsf131_N11, hn0] <;> exact rfl) ?_
                refine AWL.runG (by simp (maxSteps := 1000000) only [go_sem, List.length_map, List.map_replicate, fst_z, cls, bools, Int.one_mul, Nat.zero_add, tr_length, Nat.le_refl, List.length_replicate, hce, hv0, hv3, hv1, hv2, hsh, htv, hml, htk, hm2, hsf131_N11, hn0] <;> exact rfl) ?_
                refine AWL.icall2 rfl (by simp (maxSteps := 1000000) only [go_sem, List.length_map, List.map_replicate, fst_z, cls, bools, Int.one_mul, Nat.zero_add, tr_length, Nat.le_refl, List.length_replicate, hce, hv0, hv3, hv1, hv2, hsh, htv, hml, htk, hm2, hsf131_N11, hn0] <;> exact rfl) (by simp (maxSteps := 1000000) only [go_sem, List.length_map, List.map_replicate, fst_z, cls, bools, Int.one_mul, Nat.zero_add, tr_length, Nat.le_refl, List.length_replicate, hce, hv0, hv3, hv1, hv2, hsh, htv, hml, htk, hm2, hsf131_N11, hn0] <;> exact rfl) Try.call135 Try.func135 rfl Try.ntmps135 Try.results135 (by simp (maxSteps := 1000000) only [go_sem, List.length_map, List.map_replicate, fst_z, cls, bools, Int.one_mul, Nat.zero_add, tr_length, Nat.le_refl, List.length_replicate, hce, hv0, hv3, hv1, hv2, hsh, htv, hml, htk, hm2, hsf131_N11, hn0] <;> exact rfl) (by simp (maxSteps := 1000000) only [go_sem, List.length_map, List.map_replicate, fst_z, cls, bools, Int.one_mul, Nat.zero_add, tr_length, Nat.le_refl, List.length_replicate, hce, hv0, hv3, hv1, hv2, hsh, htv, hml, htk, hm2, hsf131_N11, hn0] <;> exact rfl) (fun z3 hz3 => ?_)
                refine AW.regR rfl (by simp (maxSteps := 1000000) only [go_sem, List.length_map, List.map_replicate, fst_z, cls, bools, Int.one_mul, Nat.zero_add, tr_length, Nat.le_refl, List.length_replicate, hce, hv0, hv3, hv1, hv2, hsh, htv, hml, htk, hm2, hsf131_N11, hn0] <;> exact rfl) (by simp (disch := omega) only [go_sem, w64, wU, List.length_map, List.map_replicate, fst_z, cls, bools, Int.one_mul, Nat.zero_add, tr_length, Nat.le_refl, List.length_replicate, hce, hv0, hv3, hv1, hv2, hsh, htv, hml, htk, hm2, hsf131_N11, hn0] <;> exact rfl) ?_
                refine AW.regR rfl (by simp (maxSteps := 1000000) only [go_sem, List.length_map, List.map_replicate, fst_z, cls, bools, Int.one_mul, Nat.zero_add, tr_length, Nat.le_refl, List.length_replicate, hce, hv0, hv3, hv1, hv2, hsh, htv, hml, htk, hm2, hsf131_N11, hn0] <;> exact rfl) (by simp (disch := omega) only [go_sem, w64, wU, List.length_map, List.map_replicate, fst_z, cls, bools, Int.one_mul, Nat.zero_add, tr_length, Nat.le_refl, List.length_replicate, hce, hv0, hv3, hv1, hv2, hsh, htv, hml, htk, hm2, hsf131_N11, hn0] <;> exact rfl) ?_
                refine AW.regR rfl (by simp (maxSteps := 1000000) only [go_sem, List.length_map, List.map_replicate, fst_z, cls, bools, Int.one_mul, Nat.zero_add, tr_length, Nat.le_refl, List.length_replicate, hce, hv0, hv3, hv1, hv2, hsh, htv, hml, htk, hm2, hsf131_N11, hn0] <;> exact rfl) (by simp (disch := omega) only [go_sem, w64, wU, List.length_map, List.map_replicate, fst_z, cls, bools, Int.one_mul, Nat.zero_add, tr_length, Nat.le_refl, List.length_replicate, hce, hv0, hv3, hv1, hv2, hsh, htv, hml, htk, hm2, hsf131_N11, hn0] <;> exact rfl) ?_
                refine icK.finQ rfl (by simp (maxSteps := 1000000) only [go_sem, List.length_map, List.map_replicate, fst_z, cls, bools, Int.one_mul, Nat.zero_add, tr_length, Nat.le_refl, List.length_replicate, hce, hv0, hv3, hv1, hv2, hsh, htv, hml, htk, hm2, hsf131_N11, hn0] <;> exact rfl) (by simp (maxSteps := 1000000) only [go_sem, List.length_map, List.map_replicate, fst_z, cls, bools, Int.one_mul, Nat.zero_add, tr_length, Nat.le_refl, List.length_replicate, hce, hv0, hv3, hv1, hv2, hsh, htv, hml, htk, hm2, hsf131_N11, hn0] <;> exact rfl) ?_
                refine AWL.runG (by simp (maxSteps := 1000000) only [go_sem, List.length_map, List.map_replicate, fst_z, cls, bools, Int.one_mul, Nat.zero_add, tr_length, Nat.le_refl, List.length_replicate, hce, hv0, hv3, hv1, hv2, hsh, htv, hml, htk, hm2, hsf131_N11, hn0] <;> exact rfl) ?_
                refine AWL.fin (by simp (disch := omega) only [go_sem, w64, wU, List.length_map, List.map_replicate, fst_z, cls, bools, Int.one_mul, Nat.zero_add, tr_length, Nat.le_refl, List.length_replicate, hce, hv0, hv3, hv1, hv2, hsh, htv, hml, htk, hm2, hsf131_N11, hn0] <;> exact rfl) ?_
                refine AW.condT (by simp (maxSteps := 1000000) only [go_sem, List.length_map, List.map_replicate, fst_z, cls, bools, Int.one_mul, Nat.zero_add, tr_length, Nat.le_refl, List.length_replicate, hce, hv0, hv3, hv1, hv2, hsh, htv, hml, htk, hm2, hsf131_N11, hn0] <;> exact rfl) ?_
                refine AW.exit ?_
                show AW _ _ _ _ _
                refine AW.regR rfl (by simp (maxSteps := 1000000) only [go_sem, List.length_map, List.map_replicate, fst_z, cls, bools, Int.one_mul, Nat.zero_add, tr_length, Nat.le_refl, List.length_replicate, hce, hv0, hv3, hv1, hv2, hsh, htv, hml, htk, hm2, hsf131_N11, hn0] <;> exact rfl) (by simp (disch := omega) only [go_sem, w64, wU, List.length_map, List.map_replicate, fst_z, cls, bools, Int.one_mul, Nat.zero_add, tr_length, Nat.le_refl, List.length_replicate, hce, hv0, hv3, hv1, hv2, hsh, htv, hml, htk, hm2, hsf131_N11, hn0] <;> exact rfl) ?_
                refine icK.finQ rfl (by simp (maxSteps := 1000000) only [go_sem, List.length_map, List.map_replicate, fst_z, cls, bools, Int.one_mul, Nat.zero_add, tr_length, Nat.le_refl, List.length_replicate, hce, hv0, hv3, hv1, hv2, hsh, htv, hml, htk, hm2, hsf131_N11, hn0] <;> exact rfl) (by simp (maxSteps := 1000000) only [go_sem, List.length_map, List.map_replicate, fst_z, cls, bools, Int.one_mul, Nat.zero_add, tr_length, Nat.le_refl, List.length_replicate, hce, hv0, hv3, hv1, hv2, hsh, htv, hml, htk, hm2, hsf131_N11, hn0] <;> exact rfl) ?_
                refine AWL.runG (by simp (maxSteps := 1000000) only [go_sem, List.length_map, List.map_replicate, fst_z, cls, bools, Int.one_mul, Nat.zero_add, tr_length, Nat.le_refl, List.length_replicate, hce, hv0, hv3, hv1, hv2, hsh, htv, hml, htk, hm2, hsf131_N11, hn0] <;> exact rfl) ?_
                refine AWL.fin (by simp (disch := omega) only [go_sem, w64, wU, List.length_map, List.map_replicate, fst_z, cls, bools, Int.one_mul, Nat.zero_add, tr_length, Nat.le_refl, List.length_replicate, hce, hv0, hv3, hv1, hv2, hsh, htv, hml, htk, hm2, hsf131_N11, hn0] <;> exact rfl) ?_
                refine AW.seq ?_
                refine AW.regR rfl (by simp (maxSteps := 1000000) only [go_sem, List.length_map, List.map_replicate, fst_z, cls, bools, Int.one_mul, Nat.zero_add, tr_length, Nat.le_refl, List.length_replicate, hce, hv0, hv3, hv1, hv2, hsh, htv, hml, htk, hm2, hsf131_N11, hn0] <;> exact rfl) (by simp (disch := omega) only [go_sem, w64, wU, List.length_map, List.map_replicate, fst_z, cls, bools, Int.one_mul, Nat.zero_add, tr_length, Nat.le_refl, List.length_replicate, hce, hv0, hv3, hv1, hv2, hsh, htv, hml, htk, hm2, hsf131_N11, hn0] <;> exact rfl) ?_
                refine AW.condF (by simp (maxSteps := 1000000) only [go_sem, List.length_map, List.map_replicate, fst_z, cls, bools, Int.one_mul, Nat.zero_add, tr_length, Nat.le_refl, List.length_replicate, hce, hv0, hv3, hv1, hv2, hsh, htv, hml, htk, hm2, hsf131_N11, hn0] <;> exact rfl) ?_
                refine AW.skip ?_
                show AW _ _ _ _ _
                refine AW.regR rfl (by simp (maxSteps := 1000000) only [go_sem, List.length_map, List.map_replicate, fst_z, cls, bools, Int.one_mul, Nat.zero_add, tr_length, Nat.le_refl, List.length_replicate, hce, hv0, hv3, hv1, hv2, hsh, htv, hml, htk, hm2, hsf131_N11, hn0] <;> exact rfl) (by simp (disch := omega) only [go_sem, w64, wU, List.length_map, List.map_replicate, fst_z, cls, bools, Int.one_mul, Nat.zero_add, tr_length, Nat.le_refl, List.length_replicate, hce, hv0, hv3, hv1, hv2, hsh, htv, hml, htk, hm2, hsf131_N11, hn0] <;> exact rfl) ?_
                refine AW.regL ?_
                refine AWL.runG (by simp (maxSteps := 1000000) only [go_sem, List.length_map, List.map_replicate, fst_z, cls, bools, Int.one_mul, Nat.zero_add, tr_length, Nat.le_refl, List.length_replicate, hce, hv0, hv3, hv1, hv2, hsh, htv, hml, htk, hm2, hsf131_N11, hn0] <;> exact rfl) ?_
                refine AWL.icall2 rfl (by simp (maxSteps := 1000000) only [go_sem, List.length_map, List.map_replicate, fst_z, cls, bools, Int.one_mul, Nat.zero_add, tr_length, Nat.le_refl, List.length_replicate, hce, hv0, hv3, hv1, hv2, hsh, htv, hml, htk, hm2, hsf131_N11, hn0] <;> exact rfl) (by simp (maxSteps := 1000000) only [go_sem, List.length_map, List.map_replicate, fst_z, cls, bools, Int.one_mul, Nat.zero_add, tr_length, Nat.le_refl, List.length_replicate, hce, hv0, hv3, hv1, hv2, hsh, htv, hml, htk, hm2, hsf131_N11, hn0] <;> exact rfl) Try.call136 Try.func136 rfl Try.ntmps136 Try.results136 (by simp (maxSteps := 1000000) only [go_sem, List.length_map, List.map_replicate, fst_z, cls, bools, Int.one_mul, Nat.zero_add, tr_length, Nat.le_refl, List.length_replicate, hce, hv0, hv3, hv1, hv2, hsh, htv, hml, htk, hm2, hsf131_N11, hn0] <;> exact rfl) (by simp (maxSteps := 1000000) only [go_sem, List.length_map, List.map_replicate, fst_z, cls, bools, Int.one_mul, Nat.zero_add, tr_length, Nat.le_refl, List.length_replicate, hce, hv0, hv3, hv1, hv2, hsh, htv, hml, htk, hm2, hsf131_N11, hn0] <;> exact rfl) (fun z4 hz4 => ?_)
                refine AW.regR rfl (by simp (maxSteps := 1000000) only [go_sem, List.length_map, List.map_replicate, fst_z, cls, bools, Int.one_mul, Nat.zero_add, tr_length, Nat.le_refl, List.length_replicate, hce, hv0, hv3, hv1, hv2, hsh, htv, hml, htk, hm2, hsf131_N11, hn0] <;> exact rfl) (by simp (disch := omega) only [go_sem, w64, wU, List.length_map, List.map_replicate, fst_z, cls, bools, Int.one_mul, Nat.zero_add, tr_length, Nat.le_refl, List.length_replicate, hce, hv0, hv3, hv1, hv2, hsh, htv, hml, htk, hm2, hsf131_N11, hn0] <;> exact rfl) ?_
                refine AW.block ?_
                refine AW.loopV (α := (List Bool) × (Int)) (fun ((m2, v) : (List Bool) × (Int)) => [(7, .pv (.int .i64 v))]) (fun ((m2, v) : (List Bool) × (Int)) => [.box [.pv (.int .i64 n)], .vec 1 ((tr vars.toNat n).map fun x => [.bool x]), .vec 1 (m2.map fun x => [.bool x])]) (fun ((m2, v) : (List Bool) × (Int)) => (0 ≤ v) ∧ (v ≤ vars) ∧ (m2.length = vars.toNat) ∧ (∀ j : Nat, (j : Int) < v → m2[j]? = (tr vars.toNat n)[j]?)) (fun ((m2, v) : (List Bool) × (Int)) => (vars - v).toNat) (List.replicate vars.toNat false, 0) ?_ ?_ ?_
                · exact ⟨by omega, by omega, by simp, fun j hj => by omega⟩
                · refine Wk.subE ?_ ?_
                  · simp (maxSteps := 1000000) (disch := omega) only [go_sem, w64, wU, List.length_map, List.map_replicate, fst_z, cls, bools, Int.one_mul, Nat.zero_add, tr_length, Nat.le_refl, List.length_replicate, hce, hv0, hv3, hv1, hv2, hsh, htv, hml, htk, hm2, hsf131_N11, hn0]
                  · simp (maxSteps := 1000000) (disch := omega) only [go_sem, w64, wU, List.length_map, List.map_replicate, fst_z, cls, bools, Int.one_mul, Nat.zero_add, tr_length, Nat.le_refl, List.length_replicate, hce, hv0, hv3, hv1, hv2, hsh, htv, hml, htk, hm2, hsf131_N11, hn0]
                · rintro ⟨m2, v⟩ hF _ ht _ hh
                  simp only [updT, go_sem] at ht hh
                  subst ht; subst hh
                  obtain ⟨b1, b2, b3, b4⟩ := hF
                  refine AW.regR rfl (by simp (maxSteps := 1000000) only [go_sem, List.length_map, List.map_replicate, fst_z, cls, bools, Int.one_mul, Nat.zero_add, tr_length, Nat.le_refl, List.length_replicate, hce, hv0, hv3, hv1, hv2, hsh, htv, hml, htk, hm2, hsf131_N11, hn0] <;> exact rfl) (by simp (disch := omega) only [go_sem, w64, wU, List.length_map, List.map_replicate, fst_z, cls, bools, Int.one_mul, Nat.zero_add, tr_length, Nat.le_refl, List.length_replicate, hce, hv0, hv3, hv1, hv2, hsh, htv, hml, htk, hm2, hsf131_N11, hn0] <;> exact rfl) ?_
                  refine AW.seq ?_
                  refine AW.cond (by simp (maxSteps := 1000000) only [go_sem, List.length_map, List.map_replicate, fst_z, cls, bools, Int.one_mul, Nat.zero_add, tr_length, Nat.le_refl, List.length_replicate, hce, hv0, hv3, hv1, hv2, hsh, htv, hml, htk, hm2, hsf131_N11, hn0] <;> exact rfl) (fun hc9 => ?_) (fun hc9 => ?_)
                  · try simp only [decide_eq_true_eq, decide_eq_false_iff_not, Bool.or_eq_true, Bool.or_eq_false_iff, Bool.and_eq_true, Bool.and_eq_false_imp, Bool.not_eq_true', Bool.not_eq_false'] at hc9
                    have r1 : (m2.map fun x => [PV.bool x])[v.toNat]? = some [.bool (m2.getD v.toNat false)] := bools_at ⟨b1, by omega⟩
                    have r2 : 0 ≤ v := b1
                    have r3 : v < vars := hc9
                    have r4 : ¬ v < 0 := by omega
                    have r5 : decide (iand .i64 (ishr .i64 n v) 1 = 1) = decide (n / 2 ^ v.toNat % 2 = 1) := by rw [iand_1, ishr_i64 (by omega)]; rfl
                    refine AW.skip ?_
                    show AW _ _ _ _ _
                    refine AW.seq ?_
                    refine AW.block ?_
                    refine AW.regR rfl (by simp (maxSteps := 1000000) only [go_sem, List.length_map, List.map_replicate, fst_z, cls, bools, Int.one_mul, Nat.zero_add, tr_length, Nat.le_refl, List.length_replicate, hce, hv0, hv3, hv1, hv2, hsh, htv, hml, htk, hm2, hsf131_N11, hn0, r1, r2, r3, r4, r5] <;> exact rfl) (by simp (disch := omega) only [go_sem, w64, wU, List.length_map, List.map_replicate, fst_z, cls, bools, Int.one_mul, Nat.zero_add, tr_length, Nat.le_refl, List.length_replicate, hce, hv0, hv3, hv1, hv2, hsh, htv, hml, htk, hm2, hsf131_N11, hn0, r1, r2, r3, r4, r5] <;> exact rfl) ?_
                    refine AW.regR1 rfl (by simp (maxSteps := 1000000) only [go_sem, List.length_map, List.map_replicate, fst_z, cls, bools, Int.one_mul, Nat.zero_add, tr_length, Nat.le_refl, List.length_replicate, hce, hv0, hv3, hv1, hv2, hsh, htv, hml, htk, hm2, hsf131_N11, hn0, r1, r2, r3, r4, r5] <;> exact rfl) (by simp (disch := omega) only [go_sem, w64, wU, List.length_map, List.map_replicate, fst_z, cls, bools, Int.one_mul, Nat.zero_add, tr_length, Nat.le_refl, List.length_replicate, hce, hv0, hv3, hv1, hv2, hsh, htv, hml, htk, hm2, hsf131_N11, hn0, r1, r2, r3, r4, r5] <;> exact rfl) ?_
                    show AW _ _ _ _ _
                    refine AW.regR1 rfl (by simp (maxSteps := 1000000) only [go_sem, List.length_map, List.map_replicate, fst_z, cls, bools, Int.one_mul, Nat.zero_add, tr_length, Nat.le_refl, List.length_replicate, hce, hv0, hv3, hv1, hv2, hsh, htv, hml, htk, hm2, hsf131_N11, hn0, r1, r2, r3, r4, r5] <;> exact rfl) (by simp (disch := omega) only [go_sem, w64, wU, List.length_map, List.map_replicate, fst_z, cls, bools, Int.one_mul, Nat.zero_add, tr_length, Nat.le_refl, List.length_replicate, hce, hv0, hv3, hv1, hv2, hsh, htv, hml, htk, hm2, hsf131_N11, hn0, r1, r2, r3, r4, r5] <;> exact rfl) ?_
                    refine ⟨(m2.set v.toNat (decide (n / 2 ^ v.toNat % 2 = 1)), v + 1), ?_, ?_, ?_⟩
                    · (try dsimp only); omega
                    · refine ⟨by omega, by omega, by simp [b3], fun j hj => ?_⟩
                      by_cases e : j = v.toNat
                      · subst e; rw [List.getElem?_set_self (by omega), tr_at _ (by omega)]
                      · rw [List.getElem?_set_ne (fun h => e h.symm)]; exact b4 j (by omega)
                    · refine Wk.subE ?_ ?_
                      · simp (maxSteps := 1000000) (disch := omega) only [go_sem, w64, wU, List.length_map, List.map_replicate, fst_z, cls, bools, Int.one_mul, Nat.zero_add, tr_length, Nat.le_refl, List.length_replicate, hce, hv0, hv3, hv1, hv2, hsh, htv, hml, htk, hm2, hsf131_N11, hn0, r1, r2, r3, r4, r5]
                      · simp (maxSteps := 1000000) (disch := omega) only [go_sem, w64, wU, List.length_map, List.map_replicate, fst_z, cls, bools, Int.one_mul, Nat.zero_add, tr_length, Nat.le_refl, List.length_replicate, hce, hv0, hv3, hv1, hv2, hsh, htv, hml, htk, hm2, hsf131_N11, hn0, r1, r2, r3, r4, r5]
                  · try simp only [decide_eq_true_eq, decide_eq_false_iff_not, Bool.or_eq_true, Bool.or_eq_false_iff, Bool.and_eq_true, Bool.and_eq_false_imp, Bool.not_eq_true', Bool.not_eq_false'] at hc9
                    have hm2 : m2 = tr vars.toNat n := List.ext_getElem? fun j => if hj : (j : Int) < v then b4 j hj else by rw [List.getElem?_eq_none (by omega), List.getElem?_eq_none (by rw [tr_length]; omega)]
                    refine AW.exit ?_
                    refine icK.finQ1 rfl (by simp (maxSteps := 1000000) only [go_sem, List.length_map, List.map_replicate, fst_z, cls, bools, Int.one_mul, Nat.zero_add, tr_length, Nat.le_refl, List.length_replicate, hce, hv0, hv3, hv1, hv2, hsh, htv, hml, htk, hm2, hsf131_N11, hn0, hm2] <;> exact rfl) (by simp (maxSteps := 1000000) only [go_sem, List.length_map, List.map_replicate, fst_z, cls, bools, Int.one_mul, Nat.zero_add, tr_length, Nat.le_refl, List.length_replicate, hce, hv0, hv3, hv1, hv2, hsh, htv, hml, htk, hm2, hsf131_N11, hn0, hm2] <;> exact rfl) ?_
                    refine AWL.fin (by simp (disch := omega) only [go_sem, w64, wU, List.length_map, List.map_replicate, fst_z, cls, bools, Int.one_mul, Nat.zero_add, tr_length, Nat.le_refl, List.length_replicate, hce, hv0, hv3, hv1, hv2, hsh, htv, hml, htk, hm2, hsf131_N11, hn0, hm2] <;> exact rfl) ?_
                    refine AW.regR rfl (by simp (maxSteps := 1000000) only [go_sem, List.length_map, List.map_replicate, fst_z, cls, bools, Int.one_mul, Nat.zero_add, tr_length, Nat.le_refl, List.length_replicate, hce, hv0, hv3, hv1, hv2, hsh, htv, hml, htk, hm2, hsf131_N11, hn0, hm2] <;> exact rfl) (by simp (disch := omega) only [go_sem, w64, wU, List.length_map, List.map_replicate, fst_z, cls, bools, Int.one_mul, Nat.zero_add, tr_length, Nat.le_refl, List.length_replicate, hce, hv0, hv3, hv1, hv2, hsh, htv, hml, htk, hm2, hsf131_N11, hn0, hm2] <;> exact rfl) ?_
                    refine retK.fin rfl (by simp (maxSteps := 1000000) only [go_sem, List.length_map, List.map_replicate, fst_z, cls, bools, Int.one_mul, Nat.zero_add, tr_length, Nat.le_refl, List.length_replicate, hce, hv0, hv3, hv1, hv2, hsh, htv, hml, htk, hm2, hsf131_N11, hn0, hm2] <;> exact rfl) (by simp (maxSteps := 1000000) only [go_sem, List.length_map, List.map_replicate, fst_z, cls, bools, Int.one_mul, Nat.zero_add, tr_length, Nat.le_refl, List.length_replicate, hce, hv0, hv3, hv1, hv2, hsh, htv, hml, htk, hm2, hsf131_N11, hn0, hm2] <;> exact rfl) (.of ?_)
                    have hm : mayC vars l = 0 := by (unfold mayC; rw [if_pos hc1, if_neg hc3])
                    have hf : fst vars.toNat l N = n := by (have := fst_stay (vars := vars.toNat) (l := l) (i := (n + 1).toNat) (by rw [hfn]; omega) (N - (n + 1).toNat); rw [hfn, show (n + 1).toNat + (N - (n + 1).toNat) = N by omega] at this; exact this)
                    have ho : okF vars l = true := by (unfold okF; rw [hN, hf]; simp [hm]; omega)
                    simp only [mF, ho, hm, hN, hf, if_true, bools]
              · have hfn := fst_keep (k := vars.toNat) (l := l) h1 (fun hh => hsf131_N11 hh.2)
                have hbf131_N11 := decide_eq_false hsf131_N11
                refine AW.regL ?_
                refine AWL.runG (by simp (maxSteps := 1000000) only [go_sem, List.length_map, List.map_replicate, fst_z, cls, bools, Int.one_mul, Nat.zero_add, tr_length, Nat.le_refl, List.length_replicate, hce, hv0, hv3, hv1, hv2, hsh, htv, hml, htk, hm2, hbf131_N11] <;> exact rfl) ?_
                refine AWL.pcallB2 (c86 l false (tr vars.toNat n) hl) rfl (by simp (maxSteps := 1000000) only [go_sem, List.length_map, List.map_replicate, fst_z, cls, bools, Int.one_mul, Nat.zero_add, tr_length, Nat.le_refl, List.length_replicate, hce, hv0, hv3, hv1, hv2, hsh, htv, hml, htk, hm2, hbf131_N11] <;> exact rfl) rfl (by simp (maxSteps := 1000000) only [go_sem, List.length_map, List.map_replicate, fst_z, cls, bools, Int.one_mul, Nat.zero_add, tr_length, Nat.le_refl, List.length_replicate, hce, hv0, hv3, hv1, hv2, hsh, htv, hml, htk, hm2, hbf131_N11] <;> exact rfl) (by simp (maxSteps := 1000000) only [go_sem, List.length_map, List.map_replicate, fst_z, cls, bools, Int.one_mul, Nat.zero_add, tr_length, Nat.le_refl, List.length_replicate, hce, hv0, hv3, hv1, hv2, hsh, htv, hml, htk, hm2, hbf131_N11] <;> exact rfl) ?_
                refine AWL.runG (by simp (maxSteps := 1000000) only [go_sem, List.length_map, List.map_replicate, fst_z, cls, bools, Int.one_mul, Nat.zero_add, tr_length, Nat.le_refl, List.length_replicate, hce, hv0, hv3, hv1, hv2, hsh, htv, hml, htk, hm2, hbf131_N11] <;> exact rfl) ?_
                refine AWL.fin (by simp (disch := omega) only [go_sem, w64, wU, List.length_map, List.map_replicate, fst_z, cls, bools, Int.one_mul, Nat.zero_add, tr_length, Nat.le_refl, List.length_replicate, hce, hv0, hv3, hv1, hv2, hsh, htv, hml, htk, hm2, hbf131_N11] <;> exact rfl) ?_
                refine AW.condF (by simp (maxSteps := 1000000) only [go_sem, List.length_map, List.map_replicate, fst_z, cls, bools, Int.one_mul, Nat.zero_add, tr_length, Nat.le_refl, List.length_replicate, hce, hv0, hv3, hv1, hv2, hsh, htv, hml, htk, hm2, hbf131_N11] <;> exact rfl) ?_
                refine AW.skip ?_
                show AW _ _ _ _ _
                refine AW.reg rfl ?_
                refine ARN.run1S (by simp (maxSteps := 1000000) only [go_sem, List.length_map, List.map_replicate, fst_z, cls, bools, Int.one_mul, Nat.zero_add, tr_length, Nat.le_refl, List.length_replicate, hce, hv0, hv3, hv1, hv2, hsh, htv, hml, htk, hm2, hbf131_N11] <;> exact rfl) ?_
                refine ARN.fin1 (by simp (disch := omega) only [go_sem, w64, wU, List.length_map, List.map_replicate, fst_z, cls, bools, Int.one_mul, Nat.zero_add, tr_length, Nat.le_refl, List.length_replicate, hce, hv0, hv3, hv1, hv2, hsh, htv, hml, htk, hm2, hbf131_N11] <;> exact rfl) ?_
                refine ⟨(tr vars.toNat n, n + 1), ?_, ?_, ?_⟩
                · (try dsimp only); omega
                · exact ⟨by omega, by omega, tr_length _ _, by rw [hfn]; exact h4⟩
                · refine Wk.subE ?_ ?_
                  · simp (maxSteps := 1000000) (disch := omega) only [go_sem, w64, wU, List.length_map, List.map_replicate, fst_z, cls, bools, Int.one_mul, Nat.zero_add, tr_length, Nat.le_refl, List.length_replicate, hce, hv0, hv3, hv1, hv2, hsh, htv, hml, htk, hm2, hbf131_N11]
                  · simp (maxSteps := 1000000) (disch := omega) only [go_sem, w64, wU, List.length_map, List.map_replicate, fst_z, cls, bools, Int.one_mul, Nat.zero_add, tr_length, Nat.le_refl, List.length_replicate, hce, hv0, hv3, hv1, hv2, hsh, htv, hml, htk, hm2, hbf131_N11]
        · try simp only [decide_eq_true_eq, decide_eq_false_iff_not, Bool.or_eq_true, Bool.or_eq_false_iff, Bool.and_eq_true, Bool.and_eq_false_imp, Bool.not_eq_true', Bool.not_eq_false'] at hc5
          refine AW.exit ?_
          show AW _ _ _ _ _
          refine AW.regS rfl ?_
          refine ARN.run1S (by simp (maxSteps := 1000000) only [go_sem, List.length_map, List.map_replicate, fst_z, cls, bools, Int.one_mul, Nat.zero_add, tr_length, Nat.le_refl, List.length_replicate, hce, hv0, hv3, hv1, hv2, hsh, htv] <;> exact rfl) ?_
          refine ARN.fin (by simp (disch := omega) only [go_sem, w64, wU, List.length_map, List.map_replicate, fst_z, cls, bools, Int.one_mul, Nat.zero_add, tr_length, Nat.le_refl, List.length_replicate, hce, hv0, hv3, hv1, hv2, hsh, htv] <;> exact rfl) ?_
          refine icK.finQ rfl (by simp (maxSteps := 1000000) only [go_sem, List.length_map, List.map_replicate, fst_z, cls, bools, Int.one_mul, Nat.zero_add, tr_length, Nat.le_refl, List.length_replicate, hce, hv0, hv3, hv1, hv2, hsh, htv] <;> exact rfl) (by simp (maxSteps := 1000000) only [go_sem, List.length_map, List.map_replicate, fst_z, cls, bools, Int.one_mul, Nat.zero_add, tr_length, Nat.le_refl, List.length_replicate, hce, hv0, hv3, hv1, hv2, hsh, htv] <;> exact rfl) ?_
          refine AWL.runG (by simp (maxSteps := 1000000) only [go_sem, List.length_map, List.map_replicate, fst_z, cls, bools, Int.one_mul, Nat.zero_add, tr_length, Nat.le_refl, List.length_replicate, hce, hv0, hv3, hv1, hv2, hsh, htv] <;> exact rfl) ?_
          refine AWL.fin (by simp (disch := omega) only [go_sem, w64, wU, List.length_map, List.map_replicate, fst_z, cls, bools, Int.one_mul, Nat.zero_add, tr_length, Nat.le_refl, List.length_replicate, hce, hv0, hv3, hv1, hv2, hsh, htv] <;> exact rfl) ?_
          refine AW.seq ?_
          refine AW.regS rfl ?_
          refine ARN.run1S (by simp (maxSteps := 1000000) only [go_sem, List.length_map, List.map_replicate, fst_z, cls, bools, Int.one_mul, Nat.zero_add, tr_length, Nat.le_refl, List.length_replicate, hce, hv0, hv3, hv1, hv2, hsh, htv] <;> exact rfl) ?_
          refine ARN.fin (by simp (disch := omega) only [go_sem, w64, wU, List.length_map, List.map_replicate, fst_z, cls, bools, Int.one_mul, Nat.zero_add, tr_length, Nat.le_refl, List.length_replicate, hce, hv0, hv3, hv1, hv2, hsh, htv] <;> exact rfl) ?_
          refine AW.condT (by simp (maxSteps := 1000000) only [go_sem, List.length_map, List.map_replicate, fst_z, cls, bools, Int.one_mul, Nat.zero_add, tr_length, Nat.le_refl, List.length_replicate, hce, hv0, hv3, hv1, hv2, hsh, htv] <;> exact rfl) ?_
          refine AW.regS rfl ?_
          refine ARN.run1S (by simp (maxSteps := 1000000) only [go_sem, List.length_map, List.map_replicate, fst_z, cls, bools, Int.one_mul, Nat.zero_add, tr_length, Nat.le_refl, List.length_replicate, hce, hv0, hv3, hv1, hv2, hsh, htv] <;> exact rfl) ?_
          refine ARN.fin (by simp (disch := omega) only [go_sem, w64, wU, List.length_map, List.map_replicate, fst_z, cls, bools, Int.one_mul, Nat.zero_add, tr_length, Nat.le_refl, List.length_replicate, hce, hv0, hv3, hv1, hv2, hsh, htv] <;> exact rfl) ?_
          refine retK.fin rfl (by simp (maxSteps := 1000000) only [go_sem, List.length_map, List.map_replicate, fst_z, cls, bools, Int.one_mul, Nat.zero_add, tr_length, Nat.le_refl, List.length_replicate, hce, hv0, hv3, hv1, hv2, hsh, htv] <;> exact rfl) (by simp (maxSteps := 1000000) only [go_sem, List.length_map, List.map_replicate, fst_z, cls, bools, Int.one_mul, Nat.zero_add, tr_length, Nat.le_refl, List.length_replicate, hce, hv0, hv3, hv1, hv2, hsh, htv] <;> exact rfl) ?_
          have hm : mayC vars l = 0 := by (unfold mayC; rw [if_pos hc1, if_neg hc3])
          have hf : fst vars.toNat l N = -1 := by (rw [← h4, show n.toNat = N by omega])
          have ho : okF vars l = false := by (unfold okF; rw [hN, hf]; simp)
          rw [hm]
          refine Sub.tup ⟨?_, ?_, Sub.refl _, trivial⟩
          · simp only [mF, ho, bools]; exact Sub.nil0 0 1 true
          · rw [ho]; exact Sub.refl _
end Go.Ab.Try
