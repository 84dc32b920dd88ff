/- Masks that may be; images. -/
import Derived.Test.YtknlgjeeenkleaaDkH
import Derived.Test.YtknlgjeeenkleaaSL
namespace Go.Ab.Try
open Go.Proofs Go.Ab
set_option linter.unusedVariables false
set_option linter.unusedSimpArgs false
set_option maxRecDepth 100000
theorem c108 (m i : Int) (hi : 0 ≤ i ∧ i < 64) : PC Try.prog 108 [.int .i64 m, .int .i64 i] (.bool (bt m i.toNat)) := by
  refine PC.start 11 Try.call108 Try.func108 rfl Try.ntmps108 Try.results108 (by simp only [go_sem]; exact rfl) fun z hz => ?_
  have hi0 := hi.1
  have hnn : (i < 0) = False := eq_false (by omega)
  have hw : IntKind.u64.wrap i = i := wU (by omega) (by omega)
  have hsh : ishr .i64 m i = m / 2 ^ i.toNat := shr_i hi
  have hia : iand .i64 (m / 2 ^ i.toNat) 1 = m / 2 ^ i.toNat % 2 := iand_1 _
  refine AW.regR rfl (by simp (maxSteps := 1000000) only [go_sem, hnn, hw, hsh, hia] <;> exact rfl) (by simp (disch := omega) only [go_sem, w64, wU, hnn, hw, hsh, hia] <;> exact rfl) ?_
  refine AW.regR rfl (by simp (maxSteps := 1000000) only [go_sem, hnn, hw, hsh, hia] <;> exact rfl) (by simp (disch := omega) only [go_sem, w64, wU, hnn, hw, hsh, hia] <;> exact rfl) ?_
  refine retK.fin rfl (by simp (maxSteps := 1000000) only [go_sem, hnn, hw, hsh, hia] <;> exact rfl) (by simp (maxSteps := 1000000) only [go_sem, hnn, hw, hsh, hia] <;> exact rfl) (.of ?_)
  rfl
theorem c107 (l : List Pn) (m e : Int) (f : Bool) (hl : l.length ≤ 60) : PC Try.prog 107 [.lst f 3 (l.map pnR), .int .i64 m, .int .i64 e] (.bool (fitB l m e)) := by
  refine PC.start 41 Try.call107 Try.func107 rfl Try.ntmps107 Try.results107 (by simp only [go_sem]; exact rfl) fun z hz => ?_
  refine AW.regR rfl (by simp (maxSteps := 1000000) only [go_sem, List.length_map] <;> exact rfl) (by simp (disch := omega) only [go_sem, w64, wU, List.length_map] <;> exact rfl) ?_
  refine AW.seq ?_
  refine AW.regR rfl (by simp (maxSteps := 1000000) only [go_sem, List.length_map] <;> exact rfl) (by simp (disch := omega) only [go_sem, w64, wU, List.length_map] <;> exact rfl) ?_
  refine AW.block ?_
  refine AW.loopVh (α := (Int)) (fun (i : (Int)) => [(7, .pv (.int .i64 i))]) (fun (i : (Int)) => (0 ≤ i) ∧ (i ≤ (l.length : Int)) ∧ (∀ j : Nat, (j : Int) < i → (ep l j < e → bt m j = true) ∧ (e < ep l j → bt m j = false))) (fun (i : (Int)) => ((l.length : Int) - i).toNat) 0 ?_ ?_ ?_
  · exact ⟨by omega, by omega, fun j hj => by omega⟩
  · refine Wk.sub ?_
    simp (maxSteps := 1000000) (disch := omega) only [go_sem, w64, wU, List.length_map]
  · rintro i hF _ ht
    simp only [updT, go_sem] at ht
    subst ht
    obtain ⟨h1, h2, h3⟩ := hF
    refine AW.seq ?_
    refine AW.regR rfl (by simp (maxSteps := 1000000) only [go_sem, List.length_map] <;> exact rfl) (by simp (disch := omega) only [go_sem, w64, wU, List.length_map] <;> exact rfl) ?_
    refine AW.cond (by simp (maxSteps := 1000000) only [go_sem, List.length_map] <;> exact rfl) (fun hc1 => ?_) (fun hc1 => ?_)
    · try simp only [decide_eq_true_eq, decide_eq_false_iff_not, Bool.or_eq_true, Bool.or_eq_false_iff, Bool.and_eq_true, Bool.and_eq_false_imp, Bool.not_eq_true', Bool.not_eq_false'] at hc1
      have hr : (l.map pnR)[i.toNat]? = some [.int .i64 (l.getD i.toNat (0, 0, 0)).1, .int .u64 (l.getD i.toNat (0, 0, 0)).2.1, .int .i64 (l.getD i.toNat (0, 0, 0)).2.2] := pn_at ⟨h1, hc1⟩
      have g1 : 0 ≤ i := h1
      have g2 : i < (l.length : Int) := hc1
      refine AW.skip ?_
      show AW _ _ _ _ _
      refine AW.seq ?_
      refine AW.block ?_
      refine AW.regS rfl ?_
      refine ARN.run1 (by simp (maxSteps := 1000000) only [go_sem, List.length_map, hr, g1, g2] <;> exact rfl) ?_
      refine ARN.pcall (fun hp => c108 m i ⟨by omega, by omega⟩) rfl (by simp (maxSteps := 1000000) only [go_sem, List.length_map, hr, g1, g2] <;> exact rfl) (by simp only [go_sem]) (by simp (maxSteps := 1000000) only [go_sem, List.length_map, hr, g1, g2] <;> exact rfl) ?_
      refine ARN.run1 (by simp (maxSteps := 1000000) only [go_sem, List.length_map, hr, g1, g2] <;> exact rfl) ?_
      refine ARN.pcall (fun hp => c108 m i ⟨by omega, by omega⟩) rfl (by simp (maxSteps := 1000000) only [go_sem, List.length_map, hr, g1, g2] <;> exact rfl) (by simp only [go_sem]) (by simp (maxSteps := 1000000) only [go_sem, List.length_map, hr, g1, g2] <;> exact rfl) ?_
      refine ARN.run1 (by simp (maxSteps := 1000000) only [go_sem, List.length_map, hr, g1, g2] <;> exact rfl) ?_
      refine ARN.fin (by simp (disch := omega) only [go_sem, w64, wU, List.length_map, hr, g1, g2] <;> exact rfl) ?_
      refine AW.cond (by simp (maxSteps := 1000000) only [go_sem, List.length_map, hr, g1, g2] <;> exact rfl) (fun hc2 => ?_) (fun hc2 => ?_)
      · try simp only [decide_eq_true_eq, decide_eq_false_iff_not, Bool.or_eq_true, Bool.or_eq_false_iff, Bool.and_eq_true, Bool.and_eq_false_imp, Bool.not_eq_true', Bool.not_eq_false'] at hc2
        refine AW.regR rfl (by simp (maxSteps := 1000000) only [go_sem, List.length_map, hr, g1, g2] <;> exact rfl) (by simp (disch := omega) only [go_sem, w64, wU, List.length_map, hr, g1, g2] <;> exact rfl) ?_
        refine retK.fin rfl (by simp (maxSteps := 1000000) only [go_sem, List.length_map, hr, g1, g2] <;> exact rfl) (by simp (maxSteps := 1000000) only [go_sem, List.length_map, hr, g1, g2] <;> exact rfl) (.of ?_)
        rw [fitB_no (j := i.toNat) (by omega) hc2]
      · try simp only [decide_eq_true_eq, decide_eq_false_iff_not, Bool.or_eq_true, Bool.or_eq_false_iff, Bool.and_eq_true, Bool.and_eq_false_imp, Bool.not_eq_true', Bool.not_eq_false'] at hc2
        refine AW.skip ?_
        show AW _ _ _ _ _
        refine AW.regR1 rfl (by simp (maxSteps := 1000000) only [go_sem, List.length_map, hr, g1, g2] <;> exact rfl) (by simp (disch := omega) only [go_sem, w64, wU, List.length_map, hr, g1, g2] <;> exact rfl) ?_
        refine ⟨(i + 1), ?_, ?_, ?_⟩
        · (try dsimp only); omega
        · exact ⟨by omega, by omega, fun j hj => if e : (j : Int) < i then h3 j e else by (have hji : j = i.toNat := by omega); subst hji; exact hc2⟩
        · refine Wk.sub ?_
          simp (maxSteps := 1000000) (disch := omega) only [go_sem, w64, wU, List.length_map, hr, g1, g2]
    · try simp only [decide_eq_true_eq, decide_eq_false_iff_not, Bool.or_eq_true, Bool.or_eq_false_iff, Bool.and_eq_true, Bool.and_eq_false_imp, Bool.not_eq_true', Bool.not_eq_false'] at hc1
      refine AW.exit ?_
      show AW _ _ _ _ _
      refine AW.regR rfl (by simp (maxSteps := 1000000) only [go_sem, List.length_map] <;> exact rfl) (by simp (disch := omega) only [go_sem, w64, wU, List.length_map] <;> exact rfl) ?_
      refine retK.fin rfl (by simp (maxSteps := 1000000) only [go_sem, List.length_map] <;> exact rfl) (by simp (maxSteps := 1000000) only [go_sem, List.length_map] <;> exact rfl) (.of ?_)
      rw [fitB_iff.2 (fun j hj => h3 j (by omega))]
theorem c53 (D : List Int) (l : List Pn) (e m : Int) (hl : l.length ≤ 60) : PC Try.prog 53 [devV D l e, .int .i64 m] (.bool (alw l m)) := by
  refine PC.start 40 Try.call53 Try.func53 rfl Try.ntmps53 Try.results53 (by simp only [go_sem]; exact rfl) fun z hz => ?_
  refine AW.regR rfl (by simp (maxSteps := 1000000) only [go_sem, List.length_map] <;> exact rfl) (by simp (disch := omega) only [go_sem, w64, wU, List.length_map] <;> exact rfl) ?_
  refine AW.regR rfl (by simp (maxSteps := 1000000) only [go_sem, List.length_map] <;> exact rfl) (by simp (disch := omega) only [go_sem, w64, wU, List.length_map] <;> exact rfl) ?_
  refine AW.seq ?_
  by_cases hs2 : l.length ≤ 20
  · have hw : IntKind.u64.wrap (l.length : Int) = l.length := wU (by omega) (by omega); have hsh : ishl .i64 1 (l.length : Int) = ((2 ^ l.length : Nat) : Int) := (shl_i (i := (l.length : Int)) ⟨by omega, by omega⟩).trans (by simp); have hp := pow_20 hs2
    refine AW.regR rfl (by simp (maxSteps := 1000000) only [go_sem, List.length_map, hs2, hw, hsh] <;> exact rfl) (by simp (disch := omega) only [go_sem, w64, wU, List.length_map, hs2, hw, hsh] <;> exact rfl) ?_
    refine AW.cond (by simp (maxSteps := 1000000) only [go_sem, List.length_map, hs2, hw, hsh] <;> exact rfl) (fun hc1 => ?_) (fun hc1 => ?_)
    · try simp only [decide_eq_true_eq, decide_eq_false_iff_not, Bool.or_eq_true, Bool.or_eq_false_iff, Bool.and_eq_true, Bool.and_eq_false_imp, Bool.not_eq_true', Bool.not_eq_false'] at hc1
      refine AW.regR rfl (by simp (maxSteps := 1000000) only [go_sem, List.length_map, hs2, hw, hsh] <;> exact rfl) (by simp (disch := omega) only [go_sem, w64, wU, List.length_map, hs2, hw, hsh] <;> exact rfl) ?_
      refine retK.fin rfl (by simp (maxSteps := 1000000) only [go_sem, List.length_map, hs2, hw, hsh] <;> exact rfl) (by simp (maxSteps := 1000000) only [go_sem, List.length_map, hs2, hw, hsh] <;> exact rfl) (.of ?_)
      rw [alw_no (by omega)]
    · try simp only [decide_eq_true_eq, decide_eq_false_iff_not, Bool.or_eq_true, Bool.or_eq_false_iff, Bool.and_eq_true, Bool.and_eq_false_imp, Bool.not_eq_true', Bool.not_eq_false'] at hc1
      refine AW.skip ?_
      show AW _ _ _ _ _
      refine AW.seq ?_
      refine AW.regR rfl (by simp (maxSteps := 1000000) only [go_sem, List.length_map, hs2, hw, hsh] <;> exact rfl) (by simp (disch := omega) only [go_sem, w64, wU, List.length_map, hs2, hw, hsh] <;> exact rfl) ?_
      refine AW.cond (by simp (maxSteps := 1000000) only [go_sem, List.length_map, hs2, hw, hsh] <;> exact rfl) (fun hc2 => ?_) (fun hc2 => ?_)
      · try simp only [decide_eq_true_eq, decide_eq_false_iff_not, Bool.or_eq_true, Bool.or_eq_false_iff, Bool.and_eq_true, Bool.and_eq_false_imp, Bool.not_eq_true', Bool.not_eq_false'] at hc2
        refine AW.regR rfl (by simp (maxSteps := 1000000) only [go_sem, List.length_map, hs2, hw, hsh] <;> exact rfl) (by simp (disch := omega) only [go_sem, w64, wU, List.length_map, hs2, hw, hsh] <;> exact rfl) ?_
        refine retK.fin rfl (by simp (maxSteps := 1000000) only [go_sem, List.length_map, hs2, hw, hsh] <;> exact rfl) (by simp (maxSteps := 1000000) only [go_sem, List.length_map, hs2, hw, hsh] <;> exact rfl) (.of ?_)
        rw [alw_ok (by omega), ok_none (by omega)]
      · try simp only [decide_eq_true_eq, decide_eq_false_iff_not, Bool.or_eq_true, Bool.or_eq_false_iff, Bool.and_eq_true, Bool.and_eq_false_imp, Bool.not_eq_true', Bool.not_eq_false'] at hc2
        refine AW.skip ?_
        show AW _ _ _ _ _
        refine AW.seq ?_
        refine AW.regR rfl (by simp (maxSteps := 1000000) only [go_sem, List.length_map, hs2, hw, hsh] <;> exact rfl) (by simp (disch := omega) only [go_sem, w64, wU, List.length_map, hs2, hw, hsh] <;> exact rfl) ?_
        refine AW.block ?_
        refine AW.loopVh (α := (Int)) (fun (i : (Int)) => [(6, .pv (.int .i64 i))]) (fun (i : (Int)) => (0 ≤ i) ∧ (i ≤ (l.length : Int)) ∧ (∀ j : Nat, (j : Int) < i → fitB l m (ep l j) = false)) (fun (i : (Int)) => ((l.length : Int) - i).toNat) 0 ?_ ?_ ?_
        · exact ⟨by omega, by omega, fun j hj => by omega⟩
        · refine Wk.sub ?_
          simp (maxSteps := 1000000) (disch := omega) only [go_sem, w64, wU, List.length_map, hs2, hw, hsh]
        · rintro i hF _ ht
          simp only [updT, go_sem] at ht
          subst ht
          obtain ⟨h1, h2, h3⟩ := hF
          refine AW.seq ?_
          refine AW.regR rfl (by simp (maxSteps := 1000000) only [go_sem, List.length_map, hs2, hw, hsh] <;> exact rfl) (by simp (disch := omega) only [go_sem, w64, wU, List.length_map, hs2, hw, hsh] <;> exact rfl) ?_
          refine AW.cond (by simp (maxSteps := 1000000) only [go_sem, List.length_map, hs2, hw, hsh] <;> exact rfl) (fun hc3 => ?_) (fun hc3 => ?_)
          · try simp only [decide_eq_true_eq, decide_eq_false_iff_not, Bool.or_eq_true, Bool.or_eq_false_iff, Bool.and_eq_true, Bool.and_eq_false_imp, Bool.not_eq_true', Bool.not_eq_false'] at hc3
            have hr : (l.map pnR)[i.toNat]? = some [.int .i64 (l.getD i.toNat (0, 0, 0)).1, .int .u64 (l.getD i.toNat (0, 0, 0)).2.1, .int .i64 (l.getD i.toNat (0, 0, 0)).2.2] := pn_at ⟨h1, hc3⟩
            have g1 : 0 ≤ i := h1
            have g2 : i < (l.length : Int) := hc3
            refine AW.skip ?_
            show AW _ _ _ _ _
            refine AW.seq ?_
            refine AW.block ?_
            refine AW.regDS follows (by kernel_rfl) ?_
            refine ARE.run1 (by simp (maxSteps := 1000000) only [go_sem, List.length_map, hs2, hw, hsh, hr, g1, g2] <;> exact rfl) ?_
            refine ARE.pcall (fun hp => c107 l m (ep l i.toNat) false hl) rfl (by simp (maxSteps := 1000000) only [go_sem, List.length_map, hs2, hw, hsh, hr, g1, g2] <;> exact rfl) (by simp only [go_sem]) (by simp (maxSteps := 1000000) only [go_sem, List.length_map, hs2, hw, hsh, hr, g1, g2] <;> exact rfl) ?_
            refine ARE.fin [0, 1, 0, 0, 8, 0, 56, 120, 248, 511] _ (by kernel_rfl) (by simp (maxSteps := 1000000) only [go_sem, List.length_map, hs2, hw, hsh, hr, g1, g2] <;> exact rfl) (by kernel_rfl) (by simp (disch := omega) only [go_sem, w64, wU, List.length_map, hs2, hw, hsh, hr, g1, g2] <;> exact rfl) ?_
            refine AW.cond (by simp (maxSteps := 1000000) only [go_sem, List.length_map, hs2, hw, hsh, hr, g1, g2] <;> exact rfl) (fun hc4 => ?_) (fun hc4 => ?_)
            · try simp only [decide_eq_true_eq, decide_eq_false_iff_not, Bool.or_eq_true, Bool.or_eq_false_iff, Bool.and_eq_true, Bool.and_eq_false_imp, Bool.not_eq_true', Bool.not_eq_false'] at hc4
              refine AW.regR rfl (by simp (maxSteps := 1000000) only [go_sem, List.length_map, hs2, hw, hsh, hr, g1, g2] <;> exact rfl) (by simp (disch := omega) only [go_sem, w64, wU, List.length_map, hs2, hw, hsh, hr, g1, g2] <;> exact rfl) ?_
              refine retK.fin rfl (by simp (maxSteps := 1000000) only [go_sem, List.length_map, hs2, hw, hsh, hr, g1, g2] <;> exact rfl) (by simp (maxSteps := 1000000) only [go_sem, List.length_map, hs2, hw, hsh, hr, g1, g2] <;> exact rfl) (.of ?_)
              rw [alw_ok (by omega), fit_ok hc4]
            · try simp only [decide_eq_true_eq, decide_eq_false_iff_not, Bool.or_eq_true, Bool.or_eq_false_iff, Bool.and_eq_true, Bool.and_eq_false_imp, Bool.not_eq_true', Bool.not_eq_false'] at hc4
              refine AW.skip ?_
              show AW _ _ _ _ _
              refine AW.regR1 rfl (by simp (maxSteps := 1000000) only [go_sem, List.length_map, hs2, hw, hsh, hr, g1, g2] <;> exact rfl) (by simp (disch := omega) only [go_sem, w64, wU, List.length_map, hs2, hw, hsh, hr, g1, g2] <;> exact rfl) ?_
              refine ⟨(i + 1), ?_, ?_, ?_⟩
              · (try dsimp only); omega
              · exact ⟨by omega, by omega, fun j hj => if e : (j : Int) < i then h3 j e else by (have hji : j = i.toNat := by omega); subst hji; simpa using hc4⟩
              · refine Wk.sub ?_
                simp (maxSteps := 1000000) (disch := omega) only [go_sem, w64, wU, List.length_map, hs2, hw, hsh, hr, g1, g2]
          · try simp only [decide_eq_true_eq, decide_eq_false_iff_not, Bool.or_eq_true, Bool.or_eq_false_iff, Bool.and_eq_true, Bool.and_eq_false_imp, Bool.not_eq_true', Bool.not_eq_false'] at hc3
            refine AW.exit ?_
            show AW _ _ _ _ _
            refine AW.regR rfl (by simp (maxSteps := 1000000) only [go_sem, List.length_map, hs2, hw, hsh] <;> exact rfl) (by simp (disch := omega) only [go_sem, w64, wU, List.length_map, hs2, hw, hsh] <;> exact rfl) ?_
            refine retK.fin rfl (by simp (maxSteps := 1000000) only [go_sem, List.length_map, hs2, hw, hsh] <;> exact rfl) (by simp (maxSteps := 1000000) only [go_sem, List.length_map, hs2, hw, hsh] <;> exact rfl) (.of ?_)
            rw [alw_ok (by omega), ok_not (by omega) (fun j hj => h3 j (by omega))]
  · skip
    have hb2 := decide_eq_false hs2
    refine AW.regS rfl ?_
    refine ARN.run1S (by simp (maxSteps := 1000000) only [go_sem, List.length_map, hb2] <;> exact rfl) ?_
    refine ARN.fin (by simp (disch := omega) only [go_sem, w64, wU, List.length_map, hb2] <;> exact rfl) ?_
    refine AW.cond (by simp (maxSteps := 1000000) only [go_sem, List.length_map, hb2] <;> exact rfl) (fun hc5 => ?_) (fun hc5 => ?_)
    · try simp only [decide_eq_true_eq, decide_eq_false_iff_not, Bool.or_eq_true, Bool.or_eq_false_iff, Bool.and_eq_true, Bool.and_eq_false_imp, Bool.not_eq_true', Bool.not_eq_false'] at hc5
      refine AW.regR rfl (by simp (maxSteps := 1000000) only [go_sem, List.length_map, hb2] <;> exact rfl) (by simp (disch := omega) only [go_sem, w64, wU, List.length_map, hb2] <;> exact rfl) ?_
      refine retK.fin rfl (by simp (maxSteps := 1000000) only [go_sem, List.length_map, hb2] <;> exact rfl) (by simp (maxSteps := 1000000) only [go_sem, List.length_map, hb2] <;> exact rfl) (.of ?_)
      rw [alw_no (by omega)]
    · try simp only [decide_eq_true_eq, decide_eq_false_iff_not, Bool.or_eq_true, Bool.or_eq_false_iff, Bool.and_eq_true, Bool.and_eq_false_imp, Bool.not_eq_true', Bool.not_eq_false'] at hc5
      exfalso; omega
theorem c52 (D : List Int) (l : List Pn) (e m : Int) (hl : l.length ≤ 60) (hw : ∀ p ∈ l, I64 p.2.2) : PC Try.prog 52 [devV D l e, .int .i64 m] (.bool (alw l m)) := by
  refine PC.start 50 Try.call52 Try.func52 rfl Try.ntmps52 Try.results52 (by simp only [go_sem]; exact rfl) fun z hz => ?_
  refine AW.regR rfl (by simp (maxSteps := 1000000) only [go_sem, List.length_map] <;> exact rfl) (by simp (disch := omega) only [go_sem, w64, wU, List.length_map] <;> exact rfl) ?_
  refine AW.regR rfl (by simp (maxSteps := 1000000) only [go_sem, List.length_map] <;> exact rfl) (by simp (disch := omega) only [go_sem, w64, wU, List.length_map] <;> exact rfl) ?_
  refine AW.seq ?_
  have hnn : ((l.length : Int) < 0) = False := eq_false (by omega)
  have hnl : ((l.length : Int) < 0) = False := hnn
  have hsh : ishr .i64 m (l.length : Int) = m / 2 ^ l.length := (shr_i (i := (l.length : Int)) ⟨by omega, by omega⟩).trans (by simp)
  refine AW.regR rfl (by simp (maxSteps := 1000000) only [go_sem, List.length_map, hnl, hsh] <;> exact rfl) (by simp (disch := omega) only [go_sem, w64, wU, List.length_map, hnl, hsh] <;> exact rfl) ?_
  refine AW.cond (by simp (maxSteps := 1000000) only [go_sem, List.length_map, hnl, hsh] <;> exact rfl) (fun hc1 => ?_) (fun hc1 => ?_)
  · try simp only [decide_eq_true_eq, decide_eq_false_iff_not, Bool.or_eq_true, Bool.or_eq_false_iff, Bool.and_eq_true, Bool.and_eq_false_imp, Bool.not_eq_true', Bool.not_eq_false'] at hc1
    refine AW.regR rfl (by simp (maxSteps := 1000000) only [go_sem, List.length_map, hnl, hsh] <;> exact rfl) (by simp (disch := omega) only [go_sem, w64, wU, List.length_map, hnl, hsh] <;> exact rfl) ?_
    refine retK.fin rfl (by simp (maxSteps := 1000000) only [go_sem, List.length_map, hnl, hsh] <;> exact rfl) (by simp (maxSteps := 1000000) only [go_sem, List.length_map, hnl, hsh] <;> exact rfl) (.of ?_)
    rw [alw_out hc1]
  · try simp only [decide_eq_true_eq, decide_eq_false_iff_not, Bool.or_eq_true, Bool.or_eq_false_iff, Bool.and_eq_true, Bool.and_eq_false_imp, Bool.not_eq_true', Bool.not_eq_false'] at hc1
    refine AW.skip ?_
    show AW _ _ _ _ _
    refine AW.regR rfl (by simp (maxSteps := 1000000) only [go_sem, List.length_map, hnl, hsh] <;> exact rfl) (by simp (disch := omega) only [go_sem, w64, wU, List.length_map, hnl, hsh] <;> exact rfl) ?_
    refine AW.seq ?_
    refine AW.regR rfl (by simp (maxSteps := 1000000) only [go_sem, List.length_map, hnl, hsh] <;> exact rfl) (by simp (disch := omega) only [go_sem, w64, wU, List.length_map, hnl, hsh] <;> exact rfl) ?_
    refine AW.block ?_
    refine AW.loopV (α := (Int) × (Int) × (Int)) (fun ((i, a, b) : (Int) × (Int) × (Int)) => [(28, .pv (.int .i64 i)), (6, .pv (.int .i64 a)), (7, .pv (.int .i64 b))]) (fun ((i, a, b) : (Int) × (Int) × (Int)) => [.box [.pv (.lst false 1 (D.map wdR)), .pv (.lst false 3 (l.map pnR)), .pv (.int .i64 e)]]) (fun ((i, a, b) : (Int) × (Int) × (Int)) => (0 ≤ i) ∧ (i ≤ (l.length : Int)) ∧ (LF l m i.toNat a b)) (fun ((i, a, b) : (Int) × (Int) × (Int)) => ((l.length : Int) - i).toNat) (0, -9223372036854775808, 9223372036854775807) ?_ ?_ ?_
    · exact ⟨by omega, by omega, LF.zero l m⟩
    · refine Wk.to [] [0] hz (by decide) ?_ ?_
      · simp (maxSteps := 1000000) (disch := omega) only [go_sem, w64, wU, List.length_map, hnl, hsh]
      · simp (maxSteps := 1000000) (disch := omega) only [go_sem, w64, wU, List.length_map, hnl, hsh]
    · rintro ⟨i, a, b⟩ hF _ ht _ hh
      simp only [updT, go_sem] at ht hh
      subst ht; subst hh
      obtain ⟨h1, h2, h3⟩ := hF
      refine AW.regR rfl (by simp (maxSteps := 1000000) only [go_sem, List.length_map, hnl, hsh] <;> exact rfl) (by simp (disch := omega) only [go_sem, w64, wU, List.length_map, hnl, hsh] <;> exact rfl) ?_
      refine AW.seq ?_
      refine AW.cond (by simp (maxSteps := 1000000) only [go_sem, List.length_map, hnl, hsh] <;> exact rfl) (fun hc2 => ?_) (fun hc2 => ?_)
      · try simp only [decide_eq_true_eq, decide_eq_false_iff_not, Bool.or_eq_true, Bool.or_eq_false_iff, Bool.and_eq_true, Bool.and_eq_false_imp, Bool.not_eq_true', Bool.not_eq_false'] at hc2
        have hr : (l.map pnR)[i.toNat]? = some [.int .i64 (l.getD i.toNat (0, 0, 0)).1, .int .u64 (l.getD i.toNat (0, 0, 0)).2.1, .int .i64 (l.getD i.toNat (0, 0, 0)).2.2] := pn_at ⟨h1, hc2⟩
        have g1 : 0 ≤ i := h1
        have g2 : i < (l.length : Int) := hc2
        have g3 : (i < 0) = False := eq_false (by omega)
        have hsi : ishr .i64 m i = m / 2 ^ i.toNat := shr_i ⟨by omega, by omega⟩
        have hia : iand .i64 (m / 2 ^ i.toNat) 1 = m / 2 ^ i.toNat % 2 := iand_1 _
        refine AW.skip ?_
        show AW _ _ _ _ _
        refine AW.seq ?_
        refine AW.block ?_
        refine AW.regR rfl (by simp (maxSteps := 1000000) only [go_sem, List.length_map, hnl, hsh, hr, g1, g2, g3, hsi, hia] <;> exact rfl) (by simp (disch := omega) only [go_sem, w64, wU, List.length_map, hnl, hsh, hr, g1, g2, g3, hsi, hia] <;> exact rfl) ?_
        refine AW.regR rfl (by simp (maxSteps := 1000000) only [go_sem, List.length_map, hnl, hsh, hr, g1, g2, g3, hsi, hia] <;> exact rfl) (by simp (disch := omega) only [go_sem, w64, wU, List.length_map, hnl, hsh, hr, g1, g2, g3, hsi, hia] <;> exact rfl) ?_
        refine AW.cond (by simp (maxSteps := 1000000) only [go_sem, List.length_map, hnl, hsh, hr, g1, g2, g3, hsi, hia] <;> exact rfl) (fun hc3 => ?_) (fun hc3 => ?_)
        · try simp only [decide_eq_true_eq, decide_eq_false_iff_not, Bool.or_eq_true, Bool.or_eq_false_iff, Bool.and_eq_true, Bool.and_eq_false_imp, Bool.not_eq_true', Bool.not_eq_false'] at hc3
          refine AW.regR1 rfl (by simp (maxSteps := 1000000) only [go_sem, List.length_map, hnl, hsh, hr, g1, g2, g3, hsi, hia] <;> exact rfl) (by simp (disch := omega) only [go_sem, w64, wU, List.length_map, hnl, hsh, hr, g1, g2, g3, hsi, hia] <;> exact rfl) ?_
          show AW _ _ _ _ _
          refine AW.regR1 rfl (by simp (maxSteps := 1000000) only [go_sem, List.length_map, hnl, hsh, hr, g1, g2, g3, hsi, hia] <;> exact rfl) (by simp (disch := omega) only [go_sem, w64, wU, List.length_map, hnl, hsh, hr, g1, g2, g3, hsi, hia] <;> exact rfl) ?_
          refine ⟨(i + 1, (if a < (l.getD i.toNat (0, 0, 0)).2.2 then (l.getD i.toNat (0, 0, 0)).2.2 else a), b), ?_, ?_, ?_⟩
          · (try dsimp only); omega
          · refine ⟨by omega, by omega, ?_⟩
            rw [show (i + 1).toNat = i.toNat + 1 by omega]; exact h3.set (decide_eq_true hc3)
          · refine Wk.to [] [0] hz (by decide) ?_ ?_
            · simp (maxSteps := 1000000) (disch := omega) only [go_sem, w64, wU, List.length_map, hnl, hsh, hr, g1, g2, g3, hsi, hia]
            · simp (maxSteps := 1000000) (disch := omega) only [go_sem, w64, wU, List.length_map, hnl, hsh, hr, g1, g2, g3, hsi, hia]
        · try simp only [decide_eq_true_eq, decide_eq_false_iff_not, Bool.or_eq_true, Bool.or_eq_false_iff, Bool.and_eq_true, Bool.and_eq_false_imp, Bool.not_eq_true', Bool.not_eq_false'] at hc3
          refine AW.regR1 rfl (by simp (maxSteps := 1000000) only [go_sem, List.length_map, hnl, hsh, hr, g1, g2, g3, hsi, hia] <;> exact rfl) (by simp (disch := omega) only [go_sem, w64, wU, List.length_map, hnl, hsh, hr, g1, g2, g3, hsi, hia] <;> exact rfl) ?_
          show AW _ _ _ _ _
          refine AW.regR1 rfl (by simp (maxSteps := 1000000) only [go_sem, List.length_map, hnl, hsh, hr, g1, g2, g3, hsi, hia] <;> exact rfl) (by simp (disch := omega) only [go_sem, w64, wU, List.length_map, hnl, hsh, hr, g1, g2, g3, hsi, hia] <;> exact rfl) ?_
          refine ⟨(i + 1, a, (if (l.getD i.toNat (0, 0, 0)).2.2 < b then (l.getD i.toNat (0, 0, 0)).2.2 else b)), ?_, ?_, ?_⟩
          · (try dsimp only); omega
          · refine ⟨by omega, by omega, ?_⟩
            rw [show (i + 1).toNat = i.toNat + 1 by omega]; exact h3.unset (decide_eq_false hc3)
          · refine Wk.to [] [0] hz (by decide) ?_ ?_
            · simp (maxSteps := 1000000) (disch := omega) only [go_sem, w64, wU, List.length_map, hnl, hsh, hr, g1, g2, g3, hsi, hia]
            · simp (maxSteps := 1000000) (disch := omega) only [go_sem, w64, wU, List.length_map, hnl, hsh, hr, g1, g2, g3, hsi, hia]
      · try simp only [decide_eq_true_eq, decide_eq_false_iff_not, Bool.or_eq_true, Bool.or_eq_false_iff, Bool.and_eq_true, Bool.and_eq_false_imp, Bool.not_eq_true', Bool.not_eq_false'] at hc2
        refine AW.exit ?_
        show AW _ _ _ _ _
        refine AW.regR rfl (by simp (maxSteps := 1000000) only [go_sem, List.length_map, hnl, hsh] <;> exact rfl) (by simp (disch := omega) only [go_sem, w64, wU, List.length_map, hnl, hsh] <;> exact rfl) ?_
        refine retK.fin rfl (by simp (maxSteps := 1000000) only [go_sem, List.length_map, hnl, hsh] <;> exact rfl) (by simp (maxSteps := 1000000) only [go_sem, List.length_map, hnl, hsh] <;> exact rfl) (.of ?_)
        have hi : i.toNat = l.length := by omega
        rw [hi] at h3; rw [alw_in hc1, h3.done hw]
theorem c54 (D : List Int) (l : List Pn) (e m : Int) (hD : D.length ≤ 1000000) (hl : l.length ≤ 60) : PC Try.prog 54 [devV D l e, .int .i64 m] (.lst false 1 ((imgD D l m).map wdR)) := by
  refine PC.start 36 Try.call54 Try.func54 rfl Try.ntmps54 Try.results54 (by simp only [go_sem]; exact rfl) fun z hz => ?_
  refine AW.regR rfl (by simp (maxSteps := 1000000) only [go_sem, List.length_map, List.length_append, List.map_append, List.length_cons, List.length_nil, pnR, List.map_cons, List.map_nil] <;> exact rfl) (by simp (disch := omega) only [go_sem, w64, wU, List.length_map, List.length_append, List.map_append, List.length_cons, List.length_nil, pnR, List.map_cons, List.map_nil] <;> exact rfl) ?_
  refine AW.regR rfl (by simp (maxSteps := 1000000) only [go_sem, List.length_map, List.length_append, List.map_append, List.length_cons, List.length_nil, pnR, List.map_cons, List.map_nil] <;> exact rfl) (by simp (disch := omega) only [go_sem, w64, wU, List.length_map, List.length_append, List.map_append, List.length_cons, List.length_nil, pnR, List.map_cons, List.map_nil] <;> exact rfl) ?_
  refine AW.seq ?_
  refine AW.regR rfl (by simp (maxSteps := 1000000) only [go_sem, List.length_map, List.length_append, List.map_append, List.length_cons, List.length_nil, pnR, List.map_cons, List.map_nil] <;> exact rfl) (by simp (disch := omega) only [go_sem, w64, wU, List.length_map, List.length_append, List.map_append, List.length_cons, List.length_nil, pnR, List.map_cons, List.map_nil] <;> exact rfl) ?_
  refine AW.block ?_
  refine AW.loopV (α := (Int)) (fun (i : (Int)) => [(11, .pv (.int .i64 i)), (5, .vs 1 0 (selL l m i.toNat).length)]) (fun (i : (Int)) => [.box [.pv (.lst false 1 (D.map wdR)), .pv (.lst false 3 (l.map pnR)), .pv (.int .i64 e)], .vec 3 ((selL l m i.toNat).map pnR)]) (fun (i : (Int)) => (0 ≤ i) ∧ (i ≤ (l.length : Int))) (fun (i : (Int)) => ((l.length : Int) - i).toNat) 0 ?_ ?_ ?_
  · exact ⟨by omega, by omega⟩
  · exact Wk.vec 3 5 0 rfl
  · rintro i hF _ ht _ hh
    simp only [updT, go_sem] at ht hh
    subst ht; subst hh
    obtain ⟨h1, h2⟩ := hF
    refine AW.regR rfl (by simp (maxSteps := 1000000) only [go_sem, List.length_map, List.length_append, List.map_append, List.length_cons, List.length_nil, pnR, List.map_cons, List.map_nil] <;> exact rfl) (by simp (disch := omega) only [go_sem, w64, wU, List.length_map, List.length_append, List.map_append, List.length_cons, List.length_nil, pnR, List.map_cons, List.map_nil] <;> exact rfl) ?_
    refine AW.seq ?_
    refine AW.cond (by simp (maxSteps := 1000000) only [go_sem, List.length_map, List.length_append, List.map_append, List.length_cons, List.length_nil, pnR, List.map_cons, List.map_nil] <;> exact rfl) (fun hc1 => ?_) (fun hc1 => ?_)
    · try simp only [decide_eq_true_eq, decide_eq_false_iff_not, Bool.or_eq_true, Bool.or_eq_false_iff, Bool.and_eq_true, Bool.and_eq_false_imp, Bool.not_eq_true', Bool.not_eq_false'] at hc1
      have hr : (l.map pnR)[i.toNat]? = some [.int .i64 (l.getD i.toNat (0, 0, 0)).1, .int .u64 (l.getD i.toNat (0, 0, 0)).2.1, .int .i64 (l.getD i.toNat (0, 0, 0)).2.2] := pn_at ⟨h1, hc1⟩
      have g1 : 0 ≤ i := h1
      have g2 : i < (l.length : Int) := hc1
      have g3 : (i < 0) = False := eq_false (by omega)
      have g63 : i < 63 := by omega
      have hsi : ishr .i64 m i = m / 2 ^ i.toNat := shr_i ⟨by omega, by omega⟩
      have hia : iand .i64 (m / 2 ^ i.toNat) 1 = m / 2 ^ i.toNat % 2 := iand_1 _
      have hsl : (selL l m i.toNat).length ≤ 60 := by have := selL_len l m i.toNat; omega
      refine AW.skip ?_
      show AW _ _ _ _ _
      refine AW.seq ?_
      refine AW.block ?_
      refine AW.regR rfl (by simp (maxSteps := 1000000) only [go_sem, List.length_map, List.length_append, List.map_append, List.length_cons, List.length_nil, pnR, List.map_cons, List.map_nil, hr, g1, g2, g3, g63, hsi, hia, hsl] <;> exact rfl) (by simp (disch := omega) only [go_sem, w64, wU, List.length_map, List.length_append, List.map_append, List.length_cons, List.length_nil, pnR, List.map_cons, List.map_nil, hr, g1, g2, g3, g63, hsi, hia, hsl] <;> exact rfl) ?_
      refine AW.regR rfl (by simp (maxSteps := 1000000) only [go_sem, List.length_map, List.length_append, List.map_append, List.length_cons, List.length_nil, pnR, List.map_cons, List.map_nil, hr, g1, g2, g3, g63, hsi, hia, hsl] <;> exact rfl) (by simp (disch := omega) only [go_sem, w64, wU, List.length_map, List.length_append, List.map_append, List.length_cons, List.length_nil, pnR, List.map_cons, List.map_nil, hr, g1, g2, g3, g63, hsi, hia, hsl] <;> exact rfl) ?_
      refine AW.cond (by simp (maxSteps := 1000000) only [go_sem, List.length_map, List.length_append, List.map_append, List.length_cons, List.length_nil, pnR, List.map_cons, List.map_nil, hr, g1, g2, g3, g63, hsi, hia, hsl] <;> exact rfl) (fun hc2 => ?_) (fun hc2 => ?_)
      · try simp only [decide_eq_true_eq, decide_eq_false_iff_not, Bool.or_eq_true, Bool.or_eq_false_iff, Bool.and_eq_true, Bool.and_eq_false_imp, Bool.not_eq_true', Bool.not_eq_false'] at hc2
        have g4 : (((selL l m i.toNat).length + 1) * 24 ≤ 140737488355328) = True := eq_true (by omega)
        have g5 : ((selL l m i.toNat).length + 1 ≤ 140737488355328) = True := eq_true (by omega)
        have hse : selL l m (i + 1).toNat = selL l m i.toNat ++ [l.getD i.toNat (0, 0, 0)] := selL_yes h1 (by omega) (decide_eq_true (by simpa using hc2))
        refine AW.regR1 rfl (by simp (maxSteps := 1000000) only [go_sem, List.length_map, List.length_append, List.map_append, List.length_cons, List.length_nil, pnR, List.map_cons, List.map_nil, hr, g1, g2, g3, g63, hsi, hia, hsl, g4, g5, hse] <;> exact rfl) (by simp (disch := omega) only [go_sem, w64, wU, List.length_map, List.length_append, List.map_append, List.length_cons, List.length_nil, pnR, List.map_cons, List.map_nil, hr, g1, g2, g3, g63, hsi, hia, hsl, g4, g5, hse] <;> exact rfl) ?_
        show AW _ _ _ _ _
        refine AW.regR1 rfl (by simp (maxSteps := 1000000) only [go_sem, List.length_map, List.length_append, List.map_append, List.length_cons, List.length_nil, pnR, List.map_cons, List.map_nil, hr, g1, g2, g3, g63, hsi, hia, hsl, g4, g5, hse] <;> exact rfl) (by simp (disch := omega) only [go_sem, w64, wU, List.length_map, List.length_append, List.map_append, List.length_cons, List.length_nil, pnR, List.map_cons, List.map_nil, hr, g1, g2, g3, g63, hsi, hia, hsl, g4, g5, hse] <;> exact rfl) ?_
        refine ⟨(i + 1), ?_, ?_, ?_⟩
        · (try dsimp only); omega
        · exact ⟨by omega, by omega⟩
        · refine Wk.to [] [0, 3] hz (by decide) ?_ ?_
          · simp (maxSteps := 1000000) (disch := omega) only [go_sem, w64, wU, List.length_map, List.length_append, List.map_append, List.length_cons, List.length_nil, pnR, List.map_cons, List.map_nil, hr, g1, g2, g3, g63, hsi, hia, hsl, g4, g5, hse]
          · simp (maxSteps := 1000000) (disch := omega) only [go_sem, w64, wU, List.length_map, List.length_append, List.map_append, List.length_cons, List.length_nil, pnR, List.map_cons, List.map_nil, hr, g1, g2, g3, g63, hsi, hia, hsl, g4, g5, hse]
      · try simp only [decide_eq_true_eq, decide_eq_false_iff_not, Bool.or_eq_true, Bool.or_eq_false_iff, Bool.and_eq_true, Bool.and_eq_false_imp, Bool.not_eq_true', Bool.not_eq_false'] at hc2
        have hse : selL l m (i + 1).toNat = selL l m i.toNat := selL_no h1 (fun hh => hc2 (by simpa using of_decide_eq_true hh.2))
        refine AW.skip ?_
        show AW _ _ _ _ _
        refine AW.regR1 rfl (by simp (maxSteps := 1000000) only [go_sem, List.length_map, List.length_append, List.map_append, List.length_cons, List.length_nil, pnR, List.map_cons, List.map_nil, hr, g1, g2, g3, g63, hsi, hia, hsl, hse] <;> exact rfl) (by simp (disch := omega) only [go_sem, w64, wU, List.length_map, List.length_append, List.map_append, List.length_cons, List.length_nil, pnR, List.map_cons, List.map_nil, hr, g1, g2, g3, g63, hsi, hia, hsl, hse] <;> exact rfl) ?_
        refine ⟨(i + 1), ?_, ?_, ?_⟩
        · (try dsimp only); omega
        · exact ⟨by omega, by omega⟩
        · refine Wk.to [] [0, 1] hz (by decide) ?_ ?_
          · simp (maxSteps := 1000000) (disch := omega) only [go_sem, w64, wU, List.length_map, List.length_append, List.map_append, List.length_cons, List.length_nil, pnR, List.map_cons, List.map_nil, hr, g1, g2, g3, g63, hsi, hia, hsl, hse]
          · simp (maxSteps := 1000000) (disch := omega) only [go_sem, w64, wU, List.length_map, List.length_append, List.map_append, List.length_cons, List.length_nil, pnR, List.map_cons, List.map_nil, hr, g1, g2, g3, g63, hsi, hia, hsl, hse]
    · try simp only [decide_eq_true_eq, decide_eq_false_iff_not, Bool.or_eq_true, Bool.or_eq_false_iff, Bool.and_eq_true, Bool.and_eq_false_imp, Bool.not_eq_true', Bool.not_eq_false'] at hc1
      refine AW.exit ?_
      show AW _ _ _ _ _
      refine AW.regL ?_
      refine AWL.runGP 0 rfl rfl (by simp (maxSteps := 1000000) only [go_sem, List.length_map, List.length_append, List.map_append, List.length_cons, List.length_nil, pnR, List.map_cons, List.map_nil] <;> exact rfl) ?_
      refine AWL.toU [(5, .pv (.lst false 3 ((selL l m l.length).map pnR)))] [.box [.pv (.lst false 1 (D.map wdR)), .pv (.lst false 3 (l.map pnR)), .pv (.int .i64 e)], .gone] [1] [0, 1] hz (by decide) ?_ ?_ ?_
      · simp (maxSteps := 1000000) only [go_sem]
      · simp (maxSteps := 1000000) only [go_sem]; exact ⟨_, rfl, Sub.of (congrArg (PV.lst false 3) (by rw [show i.toNat = l.length by omega]; exact List.take_of_length_le (by simp)))⟩
      intro t' ht
      simp only [updT, go_sem] at ht
      subst ht
      refine AWL.runG (by simp (maxSteps := 1000000) only [go_sem, List.length_map, List.length_append, List.map_append, List.length_cons, List.length_nil, pnR, List.map_cons, List.map_nil] <;> exact rfl) ?_
      refine AWL.pcall2 (c41 D (selL l m l.length) 0 ⟨hD, by have := selL_len l m l.length; omega⟩) (by simp (maxSteps := 1000000) only [go_sem, List.length_map, List.length_append, List.map_append, List.length_cons, List.length_nil, pnR, List.map_cons, List.map_nil] <;> exact rfl) rfl (by simp (maxSteps := 1000000) only [go_sem, List.length_map, List.length_append, List.map_append, List.length_cons, List.length_nil, pnR, List.map_cons, List.map_nil] <;> exact rfl) (by simp (maxSteps := 1000000) only [go_sem, List.length_map, List.length_append, List.map_append, List.length_cons, List.length_nil, pnR, List.map_cons, List.map_nil] <;> exact rfl) ?_
      refine AWL.runG (by simp (maxSteps := 1000000) only [go_sem, List.length_map, List.length_append, List.map_append, List.length_cons, List.length_nil, pnR, List.map_cons, List.map_nil] <;> exact rfl) ?_
      refine AWL.fin (by simp (disch := omega) only [go_sem, w64, wU, List.length_map, List.length_append, List.map_append, List.length_cons, List.length_nil, pnR, List.map_cons, List.map_nil] <;> exact rfl) ?_
      refine retK.fin rfl (by simp (maxSteps := 1000000) only [go_sem, List.length_map, List.length_append, List.map_append, List.length_cons, List.length_nil, pnR, List.map_cons, List.map_nil] <;> exact rfl) (by simp (maxSteps := 1000000) only [go_sem, List.length_map, List.length_append, List.map_append, List.length_cons, List.length_nil, pnR, List.map_cons, List.map_nil] <;> exact rfl) (.of ?_)
      rfl
end Go.Ab.Try
