/- The functions of the clauses' layer that need no memory of the caller's. -/
import Derived.Test.YtknlgjeeenkleaaCL
import Derived.Test.YtknlgjeeenkleaaTy
namespace Go.Ab.Try
open Go.Proofs Go.Ab
set_option linter.unusedVariables false
set_option linter.unusedSimpArgs false
set_option maxRecDepth 100000
theorem follows : Try.prog.follows .mixedOrders = true := by kernel_rfl
theorem c146 (l : Int) : PC Try.prog 146 [.int .i64 l] (.agg [.int .i64 (ofV l), .bool (ofN l)]) := by
  refine PC.start 12 Try.call146 Try.func146 rfl Try.ntmps146 Try.results146 (by simp only [go_sem]; exact rfl) fun z hz => ?_
  refine AW.regR rfl (by simp (maxSteps := 1000000) only [go_sem] <;> exact rfl) (by simp (disch := omega) only [go_sem, w64, wU] <;> exact rfl) ?_
  refine AW.seq ?_
  refine AW.regR rfl (by simp (maxSteps := 1000000) only [go_sem] <;> exact rfl) (by simp (disch := omega) only [go_sem, w64, wU] <;> exact rfl) ?_
  refine AW.cond (by simp (maxSteps := 1000000) only [go_sem] <;> exact rfl) (fun hc1 => ?_) (fun hc1 => ?_)
  · try simp only [decide_eq_true_eq, decide_eq_false_iff_not, Bool.or_eq_true, Bool.or_eq_false_iff, Bool.and_eq_true, Bool.and_eq_false_imp, Bool.not_eq_true', Bool.not_eq_false'] at hc1
    refine AW.regR rfl (by simp (maxSteps := 1000000) only [go_sem] <;> exact rfl) (by simp (disch := omega) only [go_sem, w64, wU] <;> exact rfl) ?_
    refine retK.fin rfl (by simp (maxSteps := 1000000) only [go_sem] <;> exact rfl) (by simp (maxSteps := 1000000) only [go_sem] <;> exact rfl) (.of ?_)
    simp [ofV, ofN, hc1]; omega
  · try simp only [decide_eq_true_eq, decide_eq_false_iff_not, Bool.or_eq_true, Bool.or_eq_false_iff, Bool.and_eq_true, Bool.and_eq_false_imp, Bool.not_eq_true', Bool.not_eq_false'] at hc1
    refine AW.skip ?_
    show AW _ _ _ _ _
    refine AW.regR rfl (by simp (maxSteps := 1000000) only [go_sem] <;> exact rfl) (by simp (disch := omega) only [go_sem, w64, wU] <;> exact rfl) ?_
    refine retK.fin rfl (by simp (maxSteps := 1000000) only [go_sem] <;> exact rfl) (by simp (maxSteps := 1000000) only [go_sem] <;> exact rfl) (.of ?_)
    simp [ofV, ofN, ishr_1, iand_1, hc1]; omega
theorem c128 (l : Int) : PC Try.prog 128 [.int .i64 l] (.int .i64 (ofV l)) := by
  refine PC.start 6 Try.call128 Try.func128 rfl Try.ntmps128 Try.results128 (by simp only [go_sem]; exact rfl) fun z hz => ?_
  refine AW.regR rfl (by simp (maxSteps := 1000000) only [go_sem] <;> exact rfl) (by simp (disch := omega) only [go_sem, w64, wU] <;> exact rfl) ?_
  refine AW.regS rfl ?_
  refine ARN.run1 (by simp (maxSteps := 1000000) only [go_sem] <;> exact rfl) ?_
  refine ARN.pcall (fun hp => c146 _) rfl (by simp (maxSteps := 1000000) only [go_sem] <;> exact rfl) (by simp only [go_sem]) (by simp (maxSteps := 1000000) only [go_sem] <;> exact rfl) ?_
  refine ARN.run1 (by simp (maxSteps := 1000000) only [go_sem] <;> exact rfl) ?_
  refine ARN.fin (by simp (disch := omega) only [go_sem, w64, wU] <;> exact rfl) ?_
  refine retK.fin rfl (by simp (maxSteps := 1000000) only [go_sem] <;> exact rfl) (by simp (maxSteps := 1000000) only [go_sem] <;> exact rfl) (.of ?_)
  rfl
theorem c154 (l : Int) (h : I64 l) : PC Try.prog 154 [.int .i64 l] (.int .i64 (ofV l)) := by
  refine PC.start 7 Try.call154 Try.func154 rfl Try.ntmps154 Try.results154 (by simp only [go_sem]; exact rfl) fun z hz => ?_
  refine AW.regR rfl (by simp (maxSteps := 1000000) only [go_sem] <;> exact rfl) (by simp (disch := omega) only [go_sem, w64, wU] <;> exact rfl) ?_
  refine AW.seq ?_
  refine AW.regR rfl (by simp (maxSteps := 1000000) only [go_sem] <;> exact rfl) (by simp (disch := omega) only [go_sem, w64, wU] <;> exact rfl) ?_
  refine AW.cond (by simp (maxSteps := 1000000) only [go_sem] <;> exact rfl) (fun hc1 => ?_) (fun hc1 => ?_)
  · try simp only [decide_eq_true_eq, decide_eq_false_iff_not, Bool.or_eq_true, Bool.or_eq_false_iff, Bool.and_eq_true, Bool.and_eq_false_imp, Bool.not_eq_true', Bool.not_eq_false'] at hc1
    refine AW.regR rfl (by simp (maxSteps := 1000000) only [go_sem] <;> exact rfl) (by simp (disch := omega) only [go_sem, w64, wU] <;> exact rfl) ?_
    refine retK.fin rfl (by simp (maxSteps := 1000000) only [go_sem] <;> exact rfl) (by simp (maxSteps := 1000000) only [go_sem] <;> exact rfl) (.of ?_)
    simp [ofV, hc1]
  · try simp only [decide_eq_true_eq, decide_eq_false_iff_not, Bool.or_eq_true, Bool.or_eq_false_iff, Bool.and_eq_true, Bool.and_eq_false_imp, Bool.not_eq_true', Bool.not_eq_false'] at hc1
    refine AW.skip ?_
    show AW _ _ _ _ _
    refine AW.regR rfl (by simp (maxSteps := 1000000) only [go_sem] <;> exact rfl) (by simp (disch := omega) only [go_sem, w64, wU] <;> exact rfl) ?_
    refine retK.fin rfl (by simp (maxSteps := 1000000) only [go_sem] <;> exact rfl) (by simp (maxSteps := 1000000) only [go_sem] <;> exact rfl) (.of ?_)
    unfold I64 at h; rw [Int.tdiv_eq_ediv_of_nonneg (by omega), w64 (by omega) (by omega)]; simp [ofV, hc1]
theorem c155 (l : Int) : PC Try.prog 155 [.int .i64 l] (.bool (ofN l)) := by
  refine PC.start 10 Try.call155 Try.func155 rfl Try.ntmps155 Try.results155 (by simp only [go_sem]; exact rfl) fun z hz => ?_
  refine AW.regR rfl (by simp (maxSteps := 1000000) only [go_sem] <;> exact rfl) (by simp (disch := omega) only [go_sem, w64, wU] <;> exact rfl) ?_
  refine AW.regR rfl (by simp (maxSteps := 1000000) only [go_sem] <;> exact rfl) (by simp (disch := omega) only [go_sem, w64, wU] <;> exact rfl) ?_
  refine retK.fin rfl (by simp (maxSteps := 1000000) only [go_sem] <;> exact rfl) (by simp (maxSteps := 1000000) only [go_sem] <;> exact rfl) (.of ?_)
  by_cases hl : 0 ≤ l
  · rw [Int.tmod_eq_emod_of_nonneg hl]; simp [ofN]
  · simp [ofN, hl]
theorem c149 (l : Int) (b : Bool) (m : List Bool) (h : I64 l) : PC Try.prog 149 [.int .i64 l, bools b m] (.bool (hold l m)) := by
  refine PC.start 26 Try.call149 Try.func149 rfl Try.ntmps149 Try.results149 (by simp only [go_sem]; exact rfl) fun z hz => ?_
  refine AW.regR rfl (by simp (maxSteps := 1000000) only [go_sem, bools] <;> exact rfl) (by simp (disch := omega) only [go_sem, w64, wU, bools] <;> exact rfl) ?_
  refine AW.regS rfl ?_
  refine ARN.run1 (by simp (maxSteps := 1000000) only [go_sem, bools] <;> exact rfl) ?_
  refine ARN.pcall (fun hp => c146 _) rfl (by simp (maxSteps := 1000000) only [go_sem, bools] <;> exact rfl) (by simp only [go_sem]) (by simp (maxSteps := 1000000) only [go_sem, bools] <;> exact rfl) ?_
  refine ARN.run1 (by simp (maxSteps := 1000000) only [go_sem, bools] <;> exact rfl) ?_
  refine ARN.fin (by simp (disch := omega) only [go_sem, w64, wU, bools] <;> exact rfl) ?_
  refine AW.seq ?_
  refine AW.regR rfl (by simp (maxSteps := 1000000) only [go_sem, bools] <;> exact rfl) (by simp (disch := omega) only [go_sem, w64, wU, bools] <;> exact rfl) ?_
  refine AW.cond (by simp (maxSteps := 1000000) only [go_sem, bools] <;> exact rfl) (fun hc1 => ?_) (fun hc1 => ?_)
  · try simp only [decide_eq_true_eq, decide_eq_false_iff_not, Bool.or_eq_true, Bool.or_eq_false_iff, Bool.and_eq_true, Bool.and_eq_false_imp, Bool.not_eq_true', Bool.not_eq_false'] at hc1
    refine AW.regR rfl (by simp (maxSteps := 1000000) only [go_sem, bools] <;> exact rfl) (by simp (disch := omega) only [go_sem, w64, wU, bools] <;> exact rfl) ?_
    refine retK.fin rfl (by simp (maxSteps := 1000000) only [go_sem, bools] <;> exact rfl) (by simp (maxSteps := 1000000) only [go_sem, bools] <;> exact rfl) (.of ?_)
    have : l < 0 := by (unfold ofV at hc1; split at hc1 <;> omega)
    simp [hold, this]
  · try simp only [decide_eq_true_eq, decide_eq_false_iff_not, Bool.or_eq_true, Bool.or_eq_false_iff, Bool.and_eq_true, Bool.and_eq_false_imp, Bool.not_eq_true', Bool.not_eq_false'] at hc1
    refine AW.skip ?_
    show AW _ _ _ _ _
    by_cases hs4 : ofV l < (m.length : Int)
    · have hr := bools_at ⟨nat_hold h (ofV_neg hc1), hs4⟩; have h0 := nat_hold h (ofV_neg hc1)
      refine AW.regDS follows (by kernel_rfl) ?_
      refine ARE.run1 (by simp (maxSteps := 1000000) only [go_sem, bools, hs4, hr, h0, List.length_map] <;> exact rfl) ?_
      refine ARE.fin [0, 1, 0, 4, 15, 31, 63, 63, 191, 511, 1023, 2047, 0, 4096, 16383, 32767] _ (by kernel_rfl) (by simp (maxSteps := 1000000) only [go_sem, bools, hs4, hr, h0, List.length_map] <;> exact rfl) (by kernel_rfl) (by simp (disch := omega) only [go_sem, w64, wU, bools, hs4, hr, h0, List.length_map] <;> exact rfl) ?_
      refine retK.fin rfl (by simp (maxSteps := 1000000) only [go_sem, bools, hs4, hr, h0, List.length_map] <;> exact rfl) (by simp (maxSteps := 1000000) only [go_sem, bools, hs4, hr, h0, List.length_map] <;> exact rfl) (.of ?_)
      simp [hold, ofV_neg hc1, bne]
    · have hr := bools_none hs4
      have hb4 := decide_eq_false hs4
      refine AW.regDS follows (by kernel_rfl) ?_
      refine ARE.run1S (by simp (maxSteps := 1000000) only [go_sem, bools, hb4, hr, List.length_map] <;> exact rfl) ?_
      refine ARE.fin [0, 1, 0, 4, 15, 31, 63, 63, 191, 511, 1023, 2047, 0, 4096, 16383, 32767] _ (by kernel_rfl) (by simp (maxSteps := 1000000) only [go_sem, bools, hb4, hr, List.length_map] <;> exact rfl) (by kernel_rfl) (by simp (disch := omega) only [go_sem, w64, wU, bools, hb4, hr, List.length_map] <;> exact rfl) ?_
      refine retK.fin rfl (by simp (maxSteps := 1000000) only [go_sem, bools, hb4, hr, List.length_map] <;> exact rfl) (by simp (maxSteps := 1000000) only [go_sem, bools, hb4, hr, List.length_map] <;> exact rfl) (.of ?_)
      simp [hold_ge h (ofV_neg hc1) hs4]
theorem c150 (l : Int) (b : Bool) (m : List Bool) (h : I64 l) : PC Try.prog 150 [.int .i64 l, bools b m] (.bool (hold l m)) := by
  refine PC.start 24 Try.call150 Try.func150 rfl Try.ntmps150 Try.results150 (by simp only [go_sem]; exact rfl) fun z hz => ?_
  refine AW.regR rfl (by simp (maxSteps := 1000000) only [go_sem, bools] <;> exact rfl) (by simp (disch := omega) only [go_sem, w64, wU, bools] <;> exact rfl) ?_
  refine AW.seq ?_
  refine AW.regR rfl (by simp (maxSteps := 1000000) only [go_sem, bools] <;> exact rfl) (by simp (disch := omega) only [go_sem, w64, wU, bools] <;> exact rfl) ?_
  refine AW.cond (by simp (maxSteps := 1000000) only [go_sem, bools] <;> exact rfl) (fun hc1 => ?_) (fun hc1 => ?_)
  · try simp only [decide_eq_true_eq, decide_eq_false_iff_not, Bool.or_eq_true, Bool.or_eq_false_iff, Bool.and_eq_true, Bool.and_eq_false_imp, Bool.not_eq_true', Bool.not_eq_false'] at hc1
    refine AW.regR rfl (by simp (maxSteps := 1000000) only [go_sem, bools] <;> exact rfl) (by simp (disch := omega) only [go_sem, w64, wU, bools] <;> exact rfl) ?_
    refine retK.fin rfl (by simp (maxSteps := 1000000) only [go_sem, bools] <;> exact rfl) (by simp (maxSteps := 1000000) only [go_sem, bools] <;> exact rfl) (.of ?_)
    simp [hold, hc1]
  · try simp only [decide_eq_true_eq, decide_eq_false_iff_not, Bool.or_eq_true, Bool.or_eq_false_iff, Bool.and_eq_true, Bool.and_eq_false_imp, Bool.not_eq_true', Bool.not_eq_false'] at hc1
    refine AW.skip ?_
    show AW _ _ _ _ _
    by_cases hs3 : ofV l < (m.length : Int)
    · have hr := bools_at ⟨nat_hold h hc1, hs3⟩; have h0 := nat_hold h hc1
      refine AW.regS rfl ?_
      refine ARN.run1 (by simp (maxSteps := 1000000) only [go_sem, bools, hs3, hr, h0, List.length_map] <;> exact rfl) ?_
      refine ARN.pcall (fun hp => c154 _ h) rfl (by simp (maxSteps := 1000000) only [go_sem, bools, hs3, hr, h0, List.length_map] <;> exact rfl) (by simp only [go_sem]) (by simp (maxSteps := 1000000) only [go_sem, bools, hs3, hr, h0, List.length_map] <;> exact rfl) ?_
      refine ARN.run1 (by simp (maxSteps := 1000000) only [go_sem, bools, hs3, hr, h0, List.length_map] <;> exact rfl) ?_
      refine ARN.pcall (fun hp => c154 _ h) rfl (by simp (maxSteps := 1000000) only [go_sem, bools, hs3, hr, h0, List.length_map] <;> exact rfl) (by simp only [go_sem]) (by simp (maxSteps := 1000000) only [go_sem, bools, hs3, hr, h0, List.length_map] <;> exact rfl) ?_
      refine ARN.run1 (by simp (maxSteps := 1000000) only [go_sem, bools, hs3, hr, h0, List.length_map] <;> exact rfl) ?_
      refine ARN.fin (by simp (disch := omega) only [go_sem, w64, wU, bools, hs3, hr, h0, List.length_map] <;> exact rfl) ?_
      refine AW.regS rfl ?_
      refine ARN.run1 (by simp (maxSteps := 1000000) only [go_sem, bools, hs3, hr, h0, List.length_map] <;> exact rfl) ?_
      refine ARN.pcall (fun hp => c155 _) rfl (by simp (maxSteps := 1000000) only [go_sem, bools, hs3, hr, h0, List.length_map] <;> exact rfl) (by simp only [go_sem]) (by simp (maxSteps := 1000000) only [go_sem, bools, hs3, hr, h0, List.length_map] <;> exact rfl) ?_
      refine ARN.run1 (by simp (maxSteps := 1000000) only [go_sem, bools, hs3, hr, h0, List.length_map] <;> exact rfl) ?_
      refine ARN.fin (by simp (disch := omega) only [go_sem, w64, wU, bools, hs3, hr, h0, List.length_map] <;> exact rfl) ?_
      refine retK.fin rfl (by simp (maxSteps := 1000000) only [go_sem, bools, hs3, hr, h0, List.length_map] <;> exact rfl) (by simp (maxSteps := 1000000) only [go_sem, bools, hs3, hr, h0, List.length_map] <;> exact rfl) (.of ?_)
      simp [hold, hc1, bne]
    · have hr := bools_none hs3
      have hb3 := decide_eq_false hs3
      refine AW.regS rfl ?_
      refine ARN.run1S (by simp (maxSteps := 1000000) only [go_sem, bools, hb3, hr, List.length_map] <;> exact rfl) ?_
      refine ARN.pcall (fun hp => c154 _ h) rfl (by simp (maxSteps := 1000000) only [go_sem, bools, hb3, hr, List.length_map] <;> exact rfl) (by simp only [go_sem]) (by simp (maxSteps := 1000000) only [go_sem, bools, hb3, hr, List.length_map] <;> exact rfl) ?_
      refine ARN.run1S (by simp (maxSteps := 1000000) only [go_sem, bools, hb3, hr, List.length_map] <;> exact rfl) ?_
      first | (refine ARN.pcall (fun hp => c154 _ h) rfl (by simp (maxSteps := 1000000) only [go_sem, bools, hb3, hr, List.length_map] <;> exact rfl) (by simp only [go_sem]) (by simp (maxSteps := 1000000) only [go_sem, bools, hb3, hr, List.length_map] <;> exact rfl) ?_) | skip
      refine ARN.run1S (by simp (maxSteps := 1000000) only [go_sem, bools, hb3, hr, List.length_map] <;> exact rfl) ?_
      refine ARN.fin (by simp (disch := omega) only [go_sem, w64, wU, bools, hb3, hr, List.length_map] <;> exact rfl) ?_
      refine AW.regS rfl ?_
      refine ARN.run1 (by simp (maxSteps := 1000000) only [go_sem, bools, hb3, hr, List.length_map] <;> exact rfl) ?_
      refine ARN.pcall (fun hp => c155 _) rfl (by simp (maxSteps := 1000000) only [go_sem, bools, hb3, hr, List.length_map] <;> exact rfl) (by simp only [go_sem]) (by simp (maxSteps := 1000000) only [go_sem, bools, hb3, hr, List.length_map] <;> exact rfl) ?_
      refine ARN.run1 (by simp (maxSteps := 1000000) only [go_sem, bools, hb3, hr, List.length_map] <;> exact rfl) ?_
      refine ARN.fin (by simp (disch := omega) only [go_sem, w64, wU, bools, hb3, hr, List.length_map] <;> exact rfl) ?_
      refine retK.fin rfl (by simp (maxSteps := 1000000) only [go_sem, bools, hb3, hr, List.length_map] <;> exact rfl) (by simp (maxSteps := 1000000) only [go_sem, bools, hb3, hr, List.length_map] <;> exact rfl) (.of ?_)
      simp [hold_ge h hc1 hs3]
theorem c129 (c : List Int) (b : Bool) (m : List Bool) (hc : (c.length : Int) ≤ 9223372036854775807) (hx : ∀ x ∈ c, I64 x) : PC Try.prog 129 [cl false c, bools b m] (.bool (clH m c)) := by
  refine PC.start 8 Try.call129 Try.func129 rfl Try.ntmps129 Try.results129 (by simp only [go_sem]; exact rfl) fun z hz => ?_
  refine AW.regR rfl (by simp (maxSteps := 1000000) only [go_sem, cl, bools, List.length_map] <;> exact rfl) (by simp (disch := omega) only [go_sem, w64, wU, cl, bools, List.length_map] <;> exact rfl) ?_
  refine AW.regL ?_
  refine AWL.runG (by simp (maxSteps := 1000000) only [go_sem, cl, bools, List.length_map] <;> exact rfl) ?_
  refine AWL.icall2 rfl (by simp (maxSteps := 1000000) only [go_sem, cl, bools, List.length_map] <;> exact rfl) (by simp (maxSteps := 1000000) only [go_sem, cl, bools, List.length_map] <;> exact rfl) Try.call147 Try.func147 rfl Try.ntmps147 Try.results147 (by simp (maxSteps := 1000000) only [go_sem, cl, bools, List.length_map] <;> exact rfl) (by simp (maxSteps := 1000000) only [go_sem, cl, bools, List.length_map] <;> exact rfl) (fun z1 hz1 => ?_)
  refine AW.regR rfl (by simp (maxSteps := 1000000) only [go_sem, cl, bools, List.length_map] <;> exact rfl) (by simp (disch := omega) only [go_sem, w64, wU, cl, bools, List.length_map] <;> exact rfl) ?_
  refine AW.regL ?_
  refine AWL.runG (by simp (maxSteps := 1000000) only [go_sem, cl, bools, List.length_map] <;> exact rfl) ?_
  refine AWL.icall2 rfl (by simp (maxSteps := 1000000) only [go_sem, cl, bools, List.length_map] <;> exact rfl) (by simp (maxSteps := 1000000) only [go_sem, cl, bools, List.length_map] <;> exact rfl) Try.call153 Try.func153 rfl Try.ntmps153 Try.results153 (by simp (maxSteps := 1000000) only [go_sem, cl, bools, List.length_map] <;> exact rfl) (by simp (maxSteps := 1000000) only [go_sem, cl, bools, List.length_map] <;> exact rfl) (fun z2 hz2 => ?_)
  refine AW.regR rfl (by simp (maxSteps := 1000000) only [go_sem, cl, bools, List.length_map] <;> exact rfl) (by simp (disch := omega) only [go_sem, w64, wU, cl, bools, List.length_map] <;> exact rfl) ?_
  refine AW.seq ?_
  refine AW.regR rfl (by simp (maxSteps := 1000000) only [go_sem, cl, bools, List.length_map] <;> exact rfl) (by simp (disch := omega) only [go_sem, w64, wU, cl, bools, List.length_map] <;> exact rfl) ?_
  refine AW.block ?_
  refine AW.loopVh (α := (Int)) (fun (i : (Int)) => [(8, .pv (.int .i64 i))]) (fun (i : (Int)) => (0 ≤ i) ∧ (i ≤ (c.length : Int)) ∧ (∀ j : Nat, (j : Int) < i → hold (c.getD j 0) m = false)) (fun (i : (Int)) => ((c.length : Int) - i).toNat) 0 ?_ ?_ ?_
  · exact ⟨by omega, by omega, fun j hj => by omega⟩
  · refine Wk.sub ?_
    simp (maxSteps := 1000000) (disch := omega) only [go_sem, w64, wU, cl, bools, List.length_map]
  · rintro i hF _ ht
    simp only [updT, go_sem] at ht
    subst ht
    obtain ⟨h1, h2, h3⟩ := hF
    refine AW.regR rfl (by simp (maxSteps := 1000000) only [go_sem, cl, bools, List.length_map] <;> exact rfl) (by simp (disch := omega) only [go_sem, w64, wU, cl, bools, List.length_map] <;> exact rfl) ?_
    refine AW.seq ?_
    refine AW.cond (by simp (maxSteps := 1000000) only [go_sem, cl, bools, List.length_map] <;> exact rfl) (fun hc1 => ?_) (fun hc1 => ?_)
    · try simp only [decide_eq_true_eq, decide_eq_false_iff_not, Bool.or_eq_true, Bool.or_eq_false_iff, Bool.and_eq_true, Bool.and_eq_false_imp, Bool.not_eq_true', Bool.not_eq_false'] at hc1
      have hr : (c.map fun x => [PV.int .i64 x])[i.toNat]? = some [.int .i64 (c.getD i.toNat 0)] := cl_at ⟨h1, hc1⟩
      have g1 : 0 ≤ i := h1
      have g2 : i < (c.length : Int) := hc1
      refine AW.skip ?_
      show AW _ _ _ _ _
      refine AW.seq ?_
      refine AW.block ?_
      refine AW.regR rfl (by simp (maxSteps := 1000000) only [go_sem, cl, bools, List.length_map, hr, g1, g2] <;> exact rfl) (by simp (disch := omega) only [go_sem, w64, wU, cl, bools, List.length_map, hr, g1, g2] <;> exact rfl) ?_
      refine AW.regL ?_
      refine AWL.runG (by simp (maxSteps := 1000000) only [go_sem, cl, bools, List.length_map, hr, g1, g2] <;> exact rfl) ?_
      refine AWL.icall2 rfl (by simp (maxSteps := 1000000) only [go_sem, cl, bools, List.length_map, hr, g1, g2] <;> exact rfl) (by simp (maxSteps := 1000000) only [go_sem, cl, bools, List.length_map, hr, g1, g2] <;> exact rfl) Try.call148 Try.func148 rfl Try.ntmps148 Try.results148 (by simp (maxSteps := 1000000) only [go_sem, cl, bools, List.length_map, hr, g1, g2] <;> exact rfl) (by simp (maxSteps := 1000000) only [go_sem, cl, bools, List.length_map, hr, g1, g2] <;> exact rfl) (fun z3 hz3 => ?_)
      refine AW.regR rfl (by simp (maxSteps := 1000000) only [go_sem, cl, bools, List.length_map, hr, g1, g2] <;> exact rfl) (by simp (disch := omega) only [go_sem, w64, wU, cl, bools, List.length_map, hr, g1, g2] <;> exact rfl) ?_
      refine AW.regS rfl ?_
      refine ARN.run1 (by simp (maxSteps := 1000000) only [go_sem, cl, bools, List.length_map, hr, g1, g2] <;> exact rfl) ?_
      refine ARN.pcall (fun hp => c149 (c.getD i.toNat 0) b m (hx _ (getD_mem (by omega)))) rfl (by simp (maxSteps := 1000000) only [go_sem, cl, bools, List.length_map, hr, g1, g2] <;> exact rfl) (by simp only [go_sem]) (by simp (maxSteps := 1000000) only [go_sem, cl, bools, List.length_map, hr, g1, g2] <;> exact rfl) ?_
      refine ARN.run1 (by simp (maxSteps := 1000000) only [go_sem, cl, bools, List.length_map, hr, g1, g2] <;> exact rfl) ?_
      refine ARN.fin (by simp (disch := omega) only [go_sem, w64, wU, cl, bools, List.length_map, hr, g1, g2] <;> exact rfl) ?_
      refine icK.finQ rfl (by simp (maxSteps := 1000000) only [go_sem, cl, bools, List.length_map, hr, g1, g2] <;> exact rfl) (by simp (maxSteps := 1000000) only [go_sem, cl, bools, List.length_map, hr, g1, g2] <;> exact rfl) ?_
      refine AWL.fin (by simp (disch := omega) only [go_sem, w64, wU, cl, bools, List.length_map, hr, g1, g2] <;> exact rfl) ?_
      refine AW.cond (by simp (maxSteps := 1000000) only [go_sem, cl, bools, List.length_map, hr, g1, g2] <;> exact rfl) (fun hc2 => ?_) (fun hc2 => ?_)
      · try simp only [decide_eq_true_eq, decide_eq_false_iff_not, Bool.or_eq_true, Bool.or_eq_false_iff, Bool.and_eq_true, Bool.and_eq_false_imp, Bool.not_eq_true', Bool.not_eq_false'] at hc2
        refine AW.regR rfl (by simp (maxSteps := 1000000) only [go_sem, cl, bools, List.length_map, hr, g1, g2] <;> exact rfl) (by simp (disch := omega) only [go_sem, w64, wU, cl, bools, List.length_map, hr, g1, g2] <;> exact rfl) ?_
        refine icK.finQ rfl (by simp (maxSteps := 1000000) only [go_sem, cl, bools, List.length_map, hr, g1, g2] <;> exact rfl) (by simp (maxSteps := 1000000) only [go_sem, cl, bools, List.length_map, hr, g1, g2] <;> exact rfl) ?_
        refine AWL.runG (by simp (maxSteps := 1000000) only [go_sem, cl, bools, List.length_map, hr, g1, g2] <;> exact rfl) ?_
        refine AWL.fin (by simp (disch := omega) only [go_sem, w64, wU, cl, bools, List.length_map, hr, g1, g2] <;> exact rfl) ?_
        refine icK.finQ rfl (by simp (maxSteps := 1000000) only [go_sem, cl, bools, List.length_map, hr, g1, g2] <;> exact rfl) (by simp (maxSteps := 1000000) only [go_sem, cl, bools, List.length_map, hr, g1, g2] <;> exact rfl) ?_
        refine AWL.runG (by simp (maxSteps := 1000000) only [go_sem, cl, bools, List.length_map, hr, g1, g2] <;> exact rfl) ?_
        refine AWL.fin (by simp (disch := omega) only [go_sem, w64, wU, cl, bools, List.length_map, hr, g1, g2] <;> exact rfl) ?_
        refine retK.fin rfl (by simp (maxSteps := 1000000) only [go_sem, cl, bools, List.length_map, hr, g1, g2] <;> exact rfl) (by simp (maxSteps := 1000000) only [go_sem, cl, bools, List.length_map, hr, g1, g2] <;> exact rfl) (.of ?_)
        rw [clH_yes (j := i.toNat) (by omega) hc2]
      · try simp only [decide_eq_true_eq, decide_eq_false_iff_not, Bool.or_eq_true, Bool.or_eq_false_iff, Bool.and_eq_true, Bool.and_eq_false_imp, Bool.not_eq_true', Bool.not_eq_false'] at hc2
        refine AW.skip ?_
        show AW _ _ _ _ _
        refine AW.regR1 rfl (by simp (maxSteps := 1000000) only [go_sem, cl, bools, List.length_map, hr, g1, g2] <;> exact rfl) (by simp (disch := omega) only [go_sem, w64, wU, cl, bools, List.length_map, hr, g1, g2] <;> exact rfl) ?_
        refine ⟨(i + 1), ?_, ?_, ?_⟩
        · (try dsimp only); omega
        · exact ⟨by omega, by omega, fun j hj => if e : (j : Int) < i then h3 j e else by (have hji : j = i.toNat := by omega); subst hji; simpa using hc2⟩
        · refine Wk.sub ?_
          simp (maxSteps := 1000000) (disch := omega) only [go_sem, w64, wU, cl, bools, List.length_map, hr, g1, g2]
    · try simp only [decide_eq_true_eq, decide_eq_false_iff_not, Bool.or_eq_true, Bool.or_eq_false_iff, Bool.and_eq_true, Bool.and_eq_false_imp, Bool.not_eq_true', Bool.not_eq_false'] at hc1
      refine AW.exit ?_
      show AW _ _ _ _ _
      refine AW.regR rfl (by simp (maxSteps := 1000000) only [go_sem, cl, bools, List.length_map] <;> exact rfl) (by simp (disch := omega) only [go_sem, w64, wU, cl, bools, List.length_map] <;> exact rfl) ?_
      refine icK.finQ rfl (by simp (maxSteps := 1000000) only [go_sem, cl, bools, List.length_map] <;> exact rfl) (by simp (maxSteps := 1000000) only [go_sem, cl, bools, List.length_map] <;> exact rfl) ?_
      refine AWL.runG (by simp (maxSteps := 1000000) only [go_sem, cl, bools, List.length_map] <;> exact rfl) ?_
      refine AWL.fin (by simp (disch := omega) only [go_sem, w64, wU, cl, bools, List.length_map] <;> exact rfl) ?_
      refine icK.finQ rfl (by simp (maxSteps := 1000000) only [go_sem, cl, bools, List.length_map] <;> exact rfl) (by simp (maxSteps := 1000000) only [go_sem, cl, bools, List.length_map] <;> exact rfl) ?_
      refine AWL.runG (by simp (maxSteps := 1000000) only [go_sem, cl, bools, List.length_map] <;> exact rfl) ?_
      refine AWL.fin (by simp (disch := omega) only [go_sem, w64, wU, cl, bools, List.length_map] <;> exact rfl) ?_
      refine retK.fin rfl (by simp (maxSteps := 1000000) only [go_sem, cl, bools, List.length_map] <;> exact rfl) (by simp (maxSteps := 1000000) only [go_sem, cl, bools, List.length_map] <;> exact rfl) (.of ?_)
      rw [clH_no (fun j hj => h3 j (by omega))]
theorem c130 (c : List Int) (b : Bool) (m : List Bool) (hc : (c.length : Int) ≤ 9223372036854775807) (hx : ∀ x ∈ c, I64 x) : PC Try.prog 130 [cl false c, bools b m] (.bool (clH m c)) := by
  refine PC.start 18 Try.call130 Try.func130 rfl Try.ntmps130 Try.results130 (by simp only [go_sem]; exact rfl) fun z hz => ?_
  refine AW.regR rfl (by simp (maxSteps := 1000000) only [go_sem, cl, bools, List.length_map] <;> exact rfl) (by simp (disch := omega) only [go_sem, w64, wU, cl, bools, List.length_map] <;> exact rfl) ?_
  refine AW.seq ?_
  refine AW.regR rfl (by simp (maxSteps := 1000000) only [go_sem, cl, bools, List.length_map] <;> exact rfl) (by simp (disch := omega) only [go_sem, w64, wU, cl, bools, List.length_map] <;> exact rfl) ?_
  refine AW.block ?_
  refine AW.loopVh (α := (Int)) (fun (i : (Int)) => [(5, .pv (.int .i64 i))]) (fun (i : (Int)) => (0 ≤ i) ∧ (i ≤ (c.length : Int)) ∧ (∀ j : Nat, (j : Int) < i → hold (c.getD j 0) m = false)) (fun (i : (Int)) => ((c.length : Int) - i).toNat) 0 ?_ ?_ ?_
  · exact ⟨by omega, by omega, fun j hj => by omega⟩
  · refine Wk.sub ?_
    simp (maxSteps := 1000000) (disch := omega) only [go_sem, w64, wU, cl, bools, List.length_map]
  · rintro i hF _ ht
    simp only [updT, go_sem] at ht
    subst ht
    obtain ⟨h1, h2, h3⟩ := hF
    refine AW.seq ?_
    refine AW.regR rfl (by simp (maxSteps := 1000000) only [go_sem, cl, bools, List.length_map] <;> exact rfl) (by simp (disch := omega) only [go_sem, w64, wU, cl, bools, List.length_map] <;> exact rfl) ?_
    refine AW.cond (by simp (maxSteps := 1000000) only [go_sem, cl, bools, List.length_map] <;> exact rfl) (fun hc1 => ?_) (fun hc1 => ?_)
    · try simp only [decide_eq_true_eq, decide_eq_false_iff_not, Bool.or_eq_true, Bool.or_eq_false_iff, Bool.and_eq_true, Bool.and_eq_false_imp, Bool.not_eq_true', Bool.not_eq_false'] at hc1
      have hr : (c.map fun x => [PV.int .i64 x])[i.toNat]? = some [.int .i64 (c.getD i.toNat 0)] := cl_at ⟨h1, hc1⟩
      have g1 : 0 ≤ i := h1
      have g2 : i < (c.length : Int) := hc1
      refine AW.skip ?_
      show AW _ _ _ _ _
      refine AW.seq ?_
      refine AW.block ?_
      refine AW.regS rfl ?_
      refine ARN.run1 (by simp (maxSteps := 1000000) only [go_sem, cl, bools, List.length_map, hr, g1, g2] <;> exact rfl) ?_
      refine ARN.pcall (fun hp => c150 (c.getD i.toNat 0) b m (hx _ (getD_mem (by omega)))) rfl (by simp (maxSteps := 1000000) only [go_sem, cl, bools, List.length_map, hr, g1, g2] <;> exact rfl) (by simp only [go_sem]) (by simp (maxSteps := 1000000) only [go_sem, cl, bools, List.length_map, hr, g1, g2] <;> exact rfl) ?_
      refine ARN.fin (by simp (disch := omega) only [go_sem, w64, wU, cl, bools, List.length_map, hr, g1, g2] <;> exact rfl) ?_
      refine AW.cond (by simp (maxSteps := 1000000) only [go_sem, cl, bools, List.length_map, hr, g1, g2] <;> exact rfl) (fun hc2 => ?_) (fun hc2 => ?_)
      · try simp only [decide_eq_true_eq, decide_eq_false_iff_not, Bool.or_eq_true, Bool.or_eq_false_iff, Bool.and_eq_true, Bool.and_eq_false_imp, Bool.not_eq_true', Bool.not_eq_false'] at hc2
        refine AW.regR rfl (by simp (maxSteps := 1000000) only [go_sem, cl, bools, List.length_map, hr, g1, g2] <;> exact rfl) (by simp (disch := omega) only [go_sem, w64, wU, cl, bools, List.length_map, hr, g1, g2] <;> exact rfl) ?_
        refine retK.fin rfl (by simp (maxSteps := 1000000) only [go_sem, cl, bools, List.length_map, hr, g1, g2] <;> exact rfl) (by simp (maxSteps := 1000000) only [go_sem, cl, bools, List.length_map, hr, g1, g2] <;> exact rfl) (.of ?_)
        rw [clH_yes (j := i.toNat) (by omega) hc2]
      · try simp only [decide_eq_true_eq, decide_eq_false_iff_not, Bool.or_eq_true, Bool.or_eq_false_iff, Bool.and_eq_true, Bool.and_eq_false_imp, Bool.not_eq_true', Bool.not_eq_false'] at hc2
        refine AW.skip ?_
        show AW _ _ _ _ _
        refine AW.regR1 rfl (by simp (maxSteps := 1000000) only [go_sem, cl, bools, List.length_map, hr, g1, g2] <;> exact rfl) (by simp (disch := omega) only [go_sem, w64, wU, cl, bools, List.length_map, hr, g1, g2] <;> exact rfl) ?_
        refine ⟨(i + 1), ?_, ?_, ?_⟩
        · (try dsimp only); omega
        · exact ⟨by omega, by omega, fun j hj => if e : (j : Int) < i then h3 j e else by (have hji : j = i.toNat := by omega); subst hji; simpa using hc2⟩
        · refine Wk.sub ?_
          simp (maxSteps := 1000000) (disch := omega) only [go_sem, w64, wU, cl, bools, List.length_map, hr, g1, g2]
    · try simp only [decide_eq_true_eq, decide_eq_false_iff_not, Bool.or_eq_true, Bool.or_eq_false_iff, Bool.and_eq_true, Bool.and_eq_false_imp, Bool.not_eq_true', Bool.not_eq_false'] at hc1
      refine AW.exit ?_
      show AW _ _ _ _ _
      refine AW.regR rfl (by simp (maxSteps := 1000000) only [go_sem, cl, bools, List.length_map] <;> exact rfl) (by simp (disch := omega) only [go_sem, w64, wU, cl, bools, List.length_map] <;> exact rfl) ?_
      refine retK.fin rfl (by simp (maxSteps := 1000000) only [go_sem, cl, bools, List.length_map] <;> exact rfl) (by simp (maxSteps := 1000000) only [go_sem, cl, bools, List.length_map] <;> exact rfl) (.of ?_)
      rw [clH_no (fun j hj => h3 j (by omega))]
theorem c86 (l : List (List Int)) (b : Bool) (m : List Bool) (hl : Wf l) : PC Try.prog 86 [cls l, bools b m] (.int .i64 (fbI l m)) := by
  refine PC.start 20 Try.call86 Try.func86 rfl Try.ntmps86 Try.results86 (by simp only [go_sem]; exact rfl) fun z hz => ?_
  have hl1 := hl.1
  refine AW.regR rfl (by simp (maxSteps := 1000000) only [go_sem, cls, bools, List.length_map] <;> exact rfl) (by simp (disch := omega) only [go_sem, w64, wU, cls, bools, List.length_map] <;> exact rfl) ?_
  refine AW.seq ?_
  refine AW.regR rfl (by simp (maxSteps := 1000000) only [go_sem, cls, bools, List.length_map] <;> exact rfl) (by simp (disch := omega) only [go_sem, w64, wU, cls, bools, List.length_map] <;> exact rfl) ?_
  refine AW.block ?_
  refine AW.loopVh (α := (Int)) (fun (i : (Int)) => [(9, .pv (.int .i64 i))]) (fun (i : (Int)) => (0 ≤ i) ∧ (i ≤ (l.length : Int)) ∧ (∀ j : Nat, (j : Int) < i → clH m (l.getD j []) = true)) (fun (i : (Int)) => ((l.length : Int) - i).toNat) 0 ?_ ?_ ?_
  · exact ⟨by omega, by omega, fun j hj => by omega⟩
  · refine Wk.sub ?_
    simp (maxSteps := 1000000) (disch := omega) only [go_sem, w64, wU, cls, bools, List.length_map]
  · rintro i hF _ ht
    simp only [updT, go_sem] at ht
    subst ht
    obtain ⟨h1, h2, h3⟩ := hF
    refine AW.regR rfl (by simp (maxSteps := 1000000) only [go_sem, cls, bools, List.length_map] <;> exact rfl) (by simp (disch := omega) only [go_sem, w64, wU, cls, bools, List.length_map] <;> exact rfl) ?_
    refine AW.seq ?_
    refine AW.cond (by simp (maxSteps := 1000000) only [go_sem, cls, bools, List.length_map] <;> exact rfl) (fun hc1 => ?_) (fun hc1 => ?_)
    · try simp only [decide_eq_true_eq, decide_eq_false_iff_not, Bool.or_eq_true, Bool.or_eq_false_iff, Bool.and_eq_true, Bool.and_eq_false_imp, Bool.not_eq_true', Bool.not_eq_false'] at hc1
      have hr : (l.map fun c => [cl false c])[i.toNat]? = some [cl false (l.getD i.toNat [])] := cls_at ⟨h1, hc1⟩
      have g1 : 0 ≤ i := h1
      have g2 : i < (l.length : Int) := hc1
      refine AW.skip ?_
      show AW _ _ _ _ _
      refine AW.seq ?_
      refine AW.block ?_
      refine AW.regR rfl (by simp (maxSteps := 1000000) only [go_sem, cls, bools, List.length_map, hr, g1, g2] <;> exact rfl) (by simp (disch := omega) only [go_sem, w64, wU, cls, bools, List.length_map, hr, g1, g2] <;> exact rfl) ?_
      refine AW.regS rfl ?_
      refine ARN.run1 (by simp (maxSteps := 1000000) only [go_sem, cls, bools, List.length_map, hr, g1, g2] <;> exact rfl) ?_
      refine ARN.pcall (fun hp => c129 (l.getD i.toNat []) b m (hl.at (by omega)).1 (hl.at (by omega)).2) rfl (by simp (maxSteps := 1000000) only [go_sem, cls, bools, List.length_map, hr, g1, g2] <;> exact rfl) (by simp only [go_sem]) (by simp (maxSteps := 1000000) only [go_sem, cls, bools, List.length_map, hr, g1, g2] <;> exact rfl) ?_
      refine ARN.run1 (by simp (maxSteps := 1000000) only [go_sem, cls, bools, List.length_map, hr, g1, g2] <;> exact rfl) ?_
      refine ARN.fin (by simp (disch := omega) only [go_sem, w64, wU, cls, bools, List.length_map, hr, g1, g2] <;> exact rfl) ?_
      refine AW.cond (by simp (maxSteps := 1000000) only [go_sem, cls, bools, List.length_map, hr, g1, g2] <;> exact rfl) (fun hc2 => ?_) (fun hc2 => ?_)
      · try simp only [decide_eq_true_eq, decide_eq_false_iff_not, Bool.or_eq_true, Bool.or_eq_false_iff, Bool.and_eq_true, Bool.and_eq_false_imp, Bool.not_eq_true', Bool.not_eq_false'] at hc2
        refine AW.regR rfl (by simp (maxSteps := 1000000) only [go_sem, cls, bools, List.length_map, hr, g1, g2] <;> exact rfl) (by simp (disch := omega) only [go_sem, w64, wU, cls, bools, List.length_map, hr, g1, g2] <;> exact rfl) ?_
        refine retK.fin rfl (by simp (maxSteps := 1000000) only [go_sem, cls, bools, List.length_map, hr, g1, g2] <;> exact rfl) (by simp (maxSteps := 1000000) only [go_sem, cls, bools, List.length_map, hr, g1, g2] <;> exact rfl) (.of ?_)
        rw [fb_some (i := i.toNat) (by omega) (by simpa using hc2) (fun j hj => h3 j (by omega))]; congr 1; omega
      · try simp only [decide_eq_true_eq, decide_eq_false_iff_not, Bool.or_eq_true, Bool.or_eq_false_iff, Bool.and_eq_true, Bool.and_eq_false_imp, Bool.not_eq_true', Bool.not_eq_false'] at hc2
        refine AW.skip ?_
        show AW _ _ _ _ _
        refine AW.regR1 rfl (by simp (maxSteps := 1000000) only [go_sem, cls, bools, List.length_map, hr, g1, g2] <;> exact rfl) (by simp (disch := omega) only [go_sem, w64, wU, cls, bools, List.length_map, hr, g1, g2] <;> exact rfl) ?_
        refine ⟨(i + 1), ?_, ?_, ?_⟩
        · (try dsimp only); omega
        · exact ⟨by omega, by omega, fun j hj => if e : (j : Int) < i then h3 j e else by (have hji : j = i.toNat := by omega); subst hji; simpa using hc2⟩
        · refine Wk.sub ?_
          simp (maxSteps := 1000000) (disch := omega) only [go_sem, w64, wU, cls, bools, List.length_map, hr, g1, g2]
    · try simp only [decide_eq_true_eq, decide_eq_false_iff_not, Bool.or_eq_true, Bool.or_eq_false_iff, Bool.and_eq_true, Bool.and_eq_false_imp, Bool.not_eq_true', Bool.not_eq_false'] at hc1
      refine AW.exit ?_
      show AW _ _ _ _ _
      refine AW.regR rfl (by simp (maxSteps := 1000000) only [go_sem, cls, bools, List.length_map] <;> exact rfl) (by simp (disch := omega) only [go_sem, w64, wU, cls, bools, List.length_map] <;> exact rfl) ?_
      refine retK.fin rfl (by simp (maxSteps := 1000000) only [go_sem, cls, bools, List.length_map] <;> exact rfl) (by simp (maxSteps := 1000000) only [go_sem, cls, bools, List.length_map] <;> exact rfl) (.of ?_)
      rw [fb_none (fun j hj => h3 j (by omega))]
theorem c87 (l : List (List Int)) (b : Bool) (m : List Bool) (hl : Wf l) : PC Try.prog 87 [cls l, bools b m] (.int .i64 (fbI l m)) := by
  refine PC.start 20 Try.call87 Try.func87 rfl Try.ntmps87 Try.results87 (by simp only [go_sem]; exact rfl) fun z hz => ?_
  have hl1 := hl.1
  refine AW.regR rfl (by simp (maxSteps := 1000000) only [go_sem, cls, bools, List.length_map] <;> exact rfl) (by simp (disch := omega) only [go_sem, w64, wU, cls, bools, List.length_map] <;> exact rfl) ?_
  refine AW.seq ?_
  refine AW.regR rfl (by simp (maxSteps := 1000000) only [go_sem, cls, bools, List.length_map] <;> exact rfl) (by simp (disch := omega) only [go_sem, w64, wU, cls, bools, List.length_map] <;> exact rfl) ?_
  refine AW.block ?_
  refine AW.loopVh (α := (Int)) (fun (i : (Int)) => [(5, .pv (.int .i64 i))]) (fun (i : (Int)) => (0 ≤ i) ∧ (i ≤ (l.length : Int)) ∧ (∀ j : Nat, (j : Int) < i → clH m (l.getD j []) = true)) (fun (i : (Int)) => ((l.length : Int) - i).toNat) 0 ?_ ?_ ?_
  · exact ⟨by omega, by omega, fun j hj => by omega⟩
  · refine Wk.sub ?_
    simp (maxSteps := 1000000) (disch := omega) only [go_sem, w64, wU, cls, bools, List.length_map]
  · rintro i hF _ ht
    simp only [updT, go_sem] at ht
    subst ht
    obtain ⟨h1, h2, h3⟩ := hF
    refine AW.seq ?_
    refine AW.regR rfl (by simp (maxSteps := 1000000) only [go_sem, cls, bools, List.length_map] <;> exact rfl) (by simp (disch := omega) only [go_sem, w64, wU, cls, bools, List.length_map] <;> exact rfl) ?_
    refine AW.cond (by simp (maxSteps := 1000000) only [go_sem, cls, bools, List.length_map] <;> exact rfl) (fun hc1 => ?_) (fun hc1 => ?_)
    · try simp only [decide_eq_true_eq, decide_eq_false_iff_not, Bool.or_eq_true, Bool.or_eq_false_iff, Bool.and_eq_true, Bool.and_eq_false_imp, Bool.not_eq_true', Bool.not_eq_false'] at hc1
      have hr : (l.map fun c => [cl false c])[i.toNat]? = some [cl false (l.getD i.toNat [])] := cls_at ⟨h1, hc1⟩
      have g1 : 0 ≤ i := h1
      have g2 : i < (l.length : Int) := hc1
      refine AW.skip ?_
      show AW _ _ _ _ _
      refine AW.seq ?_
      refine AW.block ?_
      refine AW.regS rfl ?_
      refine ARN.run1 (by simp (maxSteps := 1000000) only [go_sem, cls, bools, List.length_map, hr, g1, g2] <;> exact rfl) ?_
      refine ARN.pcall (fun hp => c130 (l.getD i.toNat []) b m (hl.at (by omega)).1 (hl.at (by omega)).2) rfl (by simp (maxSteps := 1000000) only [go_sem, cls, bools, List.length_map, hr, g1, g2] <;> exact rfl) (by simp only [go_sem]) (by simp (maxSteps := 1000000) only [go_sem, cls, bools, List.length_map, hr, g1, g2] <;> exact rfl) ?_
      refine ARN.run1 (by simp (maxSteps := 1000000) only [go_sem, cls, bools, List.length_map, hr, g1, g2] <;> exact rfl) ?_
      refine ARN.fin (by simp (disch := omega) only [go_sem, w64, wU, cls, bools, List.length_map, hr, g1, g2] <;> exact rfl) ?_
      refine AW.cond (by simp (maxSteps := 1000000) only [go_sem, cls, bools, List.length_map, hr, g1, g2] <;> exact rfl) (fun hc2 => ?_) (fun hc2 => ?_)
      · try simp only [decide_eq_true_eq, decide_eq_false_iff_not, Bool.or_eq_true, Bool.or_eq_false_iff, Bool.and_eq_true, Bool.and_eq_false_imp, Bool.not_eq_true', Bool.not_eq_false'] at hc2
        refine AW.regR rfl (by simp (maxSteps := 1000000) only [go_sem, cls, bools, List.length_map, hr, g1, g2] <;> exact rfl) (by simp (disch := omega) only [go_sem, w64, wU, cls, bools, List.length_map, hr, g1, g2] <;> exact rfl) ?_
        refine retK.fin rfl (by simp (maxSteps := 1000000) only [go_sem, cls, bools, List.length_map, hr, g1, g2] <;> exact rfl) (by simp (maxSteps := 1000000) only [go_sem, cls, bools, List.length_map, hr, g1, g2] <;> exact rfl) (.of ?_)
        rw [fb_some (i := i.toNat) (by omega) (by simpa using hc2) (fun j hj => h3 j (by omega))]; congr 1; omega
      · try simp only [decide_eq_true_eq, decide_eq_false_iff_not, Bool.or_eq_true, Bool.or_eq_false_iff, Bool.and_eq_true, Bool.and_eq_false_imp, Bool.not_eq_true', Bool.not_eq_false'] at hc2
        refine AW.skip ?_
        show AW _ _ _ _ _
        refine AW.regR1 rfl (by simp (maxSteps := 1000000) only [go_sem, cls, bools, List.length_map, hr, g1, g2] <;> exact rfl) (by simp (disch := omega) only [go_sem, w64, wU, cls, bools, List.length_map, hr, g1, g2] <;> exact rfl) ?_
        refine ⟨(i + 1), ?_, ?_, ?_⟩
        · (try dsimp only); omega
        · exact ⟨by omega, by omega, fun j hj => if e : (j : Int) < i then h3 j e else by (have hji : j = i.toNat := by omega); subst hji; simpa using hc2⟩
        · refine Wk.sub ?_
          simp (maxSteps := 1000000) (disch := omega) only [go_sem, w64, wU, cls, bools, List.length_map, hr, g1, g2]
    · try simp only [decide_eq_true_eq, decide_eq_false_iff_not, Bool.or_eq_true, Bool.or_eq_false_iff, Bool.and_eq_true, Bool.and_eq_false_imp, Bool.not_eq_true', Bool.not_eq_false'] at hc1
      refine AW.exit ?_
      show AW _ _ _ _ _
      refine AW.regR rfl (by simp (maxSteps := 1000000) only [go_sem, cls, bools, List.length_map] <;> exact rfl) (by simp (disch := omega) only [go_sem, w64, wU, cls, bools, List.length_map] <;> exact rfl) ?_
      refine retK.fin rfl (by simp (maxSteps := 1000000) only [go_sem, cls, bools, List.length_map] <;> exact rfl) (by simp (maxSteps := 1000000) only [go_sem, cls, bools, List.length_map] <;> exact rfl) (.of ?_)
      rw [fb_none (fun j hj => h3 j (by omega))]
theorem c84 (vars : Int) (l : List (List Int)) (hl : Wf l) : PC Try.prog 84 [.int .i64 vars, cls l] (.int .i64 (chkC vars l)) := by
  refine PC.start 46 Try.call84 Try.func84 rfl Try.ntmps84 Try.results84 (by simp only [go_sem]; exact rfl) fun z hz => ?_
  have hl1 := hl.1
  refine AW.regR rfl (by simp (maxSteps := 1000000) only [go_sem, cls, cl, List.length_map] <;> exact rfl) (by simp (disch := omega) only [go_sem, w64, wU, cls, cl, List.length_map] <;> exact rfl) ?_
  refine AW.scope ?_
  refine AW.seq ?_
  refine AW.block ?_
  refine AW.regR rfl (by simp (maxSteps := 1000000) only [go_sem, cls, cl, List.length_map] <;> exact rfl) (by simp (disch := omega) only [go_sem, w64, wU, cls, cl, List.length_map] <;> exact rfl) ?_
  refine AW.cond (by simp (maxSteps := 1000000) only [go_sem, cls, cl, List.length_map] <;> exact rfl) (fun hc1 => ?_) (fun hc1 => ?_)
  · try simp only [decide_eq_true_eq, decide_eq_false_iff_not, Bool.or_eq_true, Bool.or_eq_false_iff, Bool.and_eq_true, Bool.and_eq_false_imp, Bool.not_eq_true', Bool.not_eq_false'] at hc1
    refine AW.regR rfl (by simp (maxSteps := 1000000) only [go_sem, cls, cl, List.length_map] <;> exact rfl) (by simp (disch := omega) only [go_sem, w64, wU, cls, cl, List.length_map] <;> exact rfl) ?_
    refine retK.fin rfl (by simp (maxSteps := 1000000) only [go_sem, cls, cl, List.length_map] <;> exact rfl) (by simp (maxSteps := 1000000) only [go_sem, cls, cl, List.length_map] <;> exact rfl) (.of ?_)
    exact congrArg (PV.int .i64) (chk_vars (by omega))
  · try simp only [decide_eq_true_eq, decide_eq_false_iff_not, Bool.or_eq_true, Bool.or_eq_false_iff, Bool.and_eq_true, Bool.and_eq_false_imp, Bool.not_eq_true', Bool.not_eq_false'] at hc1
    refine AW.regR rfl (by simp (maxSteps := 1000000) only [go_sem, cls, cl, List.length_map] <;> exact rfl) (by simp (disch := omega) only [go_sem, w64, wU, cls, cl, List.length_map] <;> exact rfl) ?_
    refine AW.cond (by simp (maxSteps := 1000000) only [go_sem, cls, cl, List.length_map] <;> exact rfl) (fun hc2 => ?_) (fun hc2 => ?_)
    · try simp only [decide_eq_true_eq, decide_eq_false_iff_not, Bool.or_eq_true, Bool.or_eq_false_iff, Bool.and_eq_true, Bool.and_eq_false_imp, Bool.not_eq_true', Bool.not_eq_false'] at hc2
      refine AW.regR rfl (by simp (maxSteps := 1000000) only [go_sem, cls, cl, List.length_map] <;> exact rfl) (by simp (disch := omega) only [go_sem, w64, wU, cls, cl, List.length_map] <;> exact rfl) ?_
      refine retK.fin rfl (by simp (maxSteps := 1000000) only [go_sem, cls, cl, List.length_map] <;> exact rfl) (by simp (maxSteps := 1000000) only [go_sem, cls, cl, List.length_map] <;> exact rfl) (.of ?_)
      exact congrArg (PV.int .i64) (chk_many (by omega) (by omega))
    · try simp only [decide_eq_true_eq, decide_eq_false_iff_not, Bool.or_eq_true, Bool.or_eq_false_iff, Bool.and_eq_true, Bool.and_eq_false_imp, Bool.not_eq_true', Bool.not_eq_false'] at hc2
      refine AW.skip ?_
      show AW _ _ _ _ _
      refine AW.regR rfl (by simp (maxSteps := 1000000) only [go_sem, cls, cl, List.length_map] <;> exact rfl) (by simp (disch := omega) only [go_sem, w64, wU, cls, cl, List.length_map] <;> exact rfl) ?_
      refine AW.seq ?_
      refine AW.label ?_
      show AW _ _ _ _ _
      refine AW.seq ?_
      refine AW.regR rfl (by simp (maxSteps := 1000000) only [go_sem, cls, cl, List.length_map] <;> exact rfl) (by simp (disch := omega) only [go_sem, w64, wU, cls, cl, List.length_map] <;> exact rfl) ?_
      refine AW.block ?_
      refine AW.loopVh (α := (Int)) (fun (i : (Int)) => [(24, .pv (.int .i64 i))]) (fun (i : (Int)) => (0 ≤ i) ∧ (i ≤ (l.length : Int)) ∧ (∀ j : Nat, (j : Int) < i → ∀ k : Nat, k < (l.getD j []).length → badX vars ((l.getD j []).getD k 0) = false)) (fun (i : (Int)) => ((l.length : Int) - i).toNat) 0 ?_ ?_ ?_
      · exact ⟨by omega, by omega, fun j hj => by omega⟩
      · refine Wk.sub ?_
        simp (maxSteps := 1000000) (disch := omega) only [go_sem, w64, wU, cls, cl, List.length_map]
      · rintro i hF _ ht
        simp only [updT, go_sem] at ht
        subst ht
        obtain ⟨h1, h2, h3⟩ := hF
        refine AW.regR rfl (by simp (maxSteps := 1000000) only [go_sem, cls, cl, List.length_map] <;> exact rfl) (by simp (disch := omega) only [go_sem, w64, wU, cls, cl, List.length_map] <;> exact rfl) ?_
        refine AW.seq ?_
        refine AW.cond (by simp (maxSteps := 1000000) only [go_sem, cls, cl, List.length_map] <;> exact rfl) (fun hc3 => ?_) (fun hc3 => ?_)
        · try simp only [decide_eq_true_eq, decide_eq_false_iff_not, Bool.or_eq_true, Bool.or_eq_false_iff, Bool.and_eq_true, Bool.and_eq_false_imp, Bool.not_eq_true', Bool.not_eq_false'] at hc3
          have hr : (l.map fun c => [PV.lst false 1 (c.map fun x => [PV.int .i64 x])])[i.toNat]? = some [.lst false 1 ((l.getD i.toNat []).map fun x => [.int .i64 x])] := cls_at ⟨h1, hc3⟩
          have g1 : 0 ≤ i := h1
          have g2 : i < (l.length : Int) := hc3
          refine AW.skip ?_
          show AW _ _ _ _ _
          refine AW.seq ?_
          refine AW.block ?_
          refine AW.regR rfl (by simp (maxSteps := 1000000) only [go_sem, cls, cl, List.length_map, hr, g1, g2] <;> exact rfl) (by simp (disch := omega) only [go_sem, w64, wU, cls, cl, List.length_map, hr, g1, g2] <;> exact rfl) ?_
          refine AW.regR rfl (by simp (maxSteps := 1000000) only [go_sem, cls, cl, List.length_map, hr, g1, g2] <;> exact rfl) (by simp (disch := omega) only [go_sem, w64, wU, cls, cl, List.length_map, hr, g1, g2] <;> exact rfl) ?_
          refine AW.block ?_
          refine AW.loopVh (α := (Int)) (fun (k : (Int)) => [(30, .pv (.int .i64 k))]) (fun (k : (Int)) => (0 ≤ k) ∧ (k ≤ ((l.getD i.toNat []).length : Int)) ∧ (∀ j : Nat, (j : Int) < k → badX vars ((l.getD i.toNat []).getD j 0) = false)) (fun (k : (Int)) => (((l.getD i.toNat []).length : Int) - k).toNat) 0 ?_ ?_ ?_
          · exact ⟨by omega, by omega, fun j hj => by omega⟩
          · refine Wk.sub ?_
            simp (maxSteps := 1000000) (disch := omega) only [go_sem, w64, wU, cls, cl, List.length_map, hr, g1, g2]
          · rintro k hF _ ht
            simp only [updT, go_sem] at ht
            subst ht
            obtain ⟨h4, h5, h6⟩ := hF
            refine AW.regR rfl (by simp (maxSteps := 1000000) only [go_sem, cls, cl, List.length_map, hr, g1, g2] <;> exact rfl) (by simp (disch := omega) only [go_sem, w64, wU, cls, cl, List.length_map, hr, g1, g2] <;> exact rfl) ?_
            refine AW.seq ?_
            refine AW.cond (by simp (maxSteps := 1000000) only [go_sem, cls, cl, List.length_map, hr, g1, g2] <;> exact rfl) (fun hc4 => ?_) (fun hc4 => ?_)
            · try simp only [decide_eq_true_eq, decide_eq_false_iff_not, Bool.or_eq_true, Bool.or_eq_false_iff, Bool.and_eq_true, Bool.and_eq_false_imp, Bool.not_eq_true', Bool.not_eq_false'] at hc4
              have hw : ((l.getD i.toNat []).length : Int) ≤ 9223372036854775807 := (hl.at (by omega)).1
              have hr2 : ((l.getD i.toNat []).map fun x => [PV.int .i64 x])[k.toNat]? = some [.int .i64 ((l.getD i.toNat []).getD k.toNat 0)] := cl_at ⟨h4, hc4⟩
              have g4 : 0 ≤ k := h4
              have g5 : k < ((l.getD i.toNat []).length : Int) := hc4
              refine AW.skip ?_
              show AW _ _ _ _ _
              refine AW.seq ?_
              refine AW.block ?_
              refine AW.regR rfl (by simp (maxSteps := 1000000) only [go_sem, cls, cl, List.length_map, hr, g1, g2, hw, hr2, g4, g5] <;> exact rfl) (by simp (disch := omega) only [go_sem, w64, wU, cls, cl, List.length_map, hr, g1, g2, hw, hr2, g4, g5] <;> exact rfl) ?_
              refine AW.regS rfl ?_
              refine ARN.run1 (by simp (maxSteps := 1000000) only [go_sem, cls, cl, List.length_map, hr, g1, g2, hw, hr2, g4, g5] <;> exact rfl) ?_
              refine ARN.pcall (fun hp => c128 _) rfl (by simp (maxSteps := 1000000) only [go_sem, cls, cl, List.length_map, hr, g1, g2, hw, hr2, g4, g5] <;> exact rfl) (by simp only [go_sem]) (by simp (maxSteps := 1000000) only [go_sem, cls, cl, List.length_map, hr, g1, g2, hw, hr2, g4, g5] <;> exact rfl) ?_
              refine ARN.run1 (by simp (maxSteps := 1000000) only [go_sem, cls, cl, List.length_map, hr, g1, g2, hw, hr2, g4, g5] <;> exact rfl) ?_
              refine ARN.fin (by simp (disch := omega) only [go_sem, w64, wU, cls, cl, List.length_map, hr, g1, g2, hw, hr2, g4, g5] <;> exact rfl) ?_
              refine AW.regR rfl (by simp (maxSteps := 1000000) only [go_sem, cls, cl, List.length_map, hr, g1, g2, hw, hr2, g4, g5] <;> exact rfl) (by simp (disch := omega) only [go_sem, w64, wU, cls, cl, List.length_map, hr, g1, g2, hw, hr2, g4, g5] <;> exact rfl) ?_
              refine AW.cond (by simp (maxSteps := 1000000) only [go_sem, cls, cl, List.length_map, hr, g1, g2, hw, hr2, g4, g5] <;> exact rfl) (fun hc5 => ?_) (fun hc5 => ?_)
              · try simp only [decide_eq_true_eq, decide_eq_false_iff_not, Bool.or_eq_true, Bool.or_eq_false_iff, Bool.and_eq_true, Bool.and_eq_false_imp, Bool.not_eq_true', Bool.not_eq_false'] at hc5
                refine AW.regR rfl (by simp (maxSteps := 1000000) only [go_sem, cls, cl, List.length_map, hr, g1, g2, hw, hr2, g4, g5] <;> exact rfl) (by simp (disch := omega) only [go_sem, w64, wU, cls, cl, List.length_map, hr, g1, g2, hw, hr2, g4, g5] <;> exact rfl) ?_
                refine AW.exit ?_
                show AW _ _ _ _ _
                skip
                refine AW.regR rfl (by simp (maxSteps := 1000000) only [go_sem, cls, cl, List.length_map, hr, g1, g2, hw, hr2, g4, g5] <;> exact rfl) (by simp (disch := omega) only [go_sem, w64, wU, cls, cl, List.length_map, hr, g1, g2, hw, hr2, g4, g5] <;> exact rfl) ?_
                refine retK.fin rfl (by simp (maxSteps := 1000000) only [go_sem, cls, cl, List.length_map, hr, g1, g2, hw, hr2, g4, g5] <;> exact rfl) (by simp (maxSteps := 1000000) only [go_sem, cls, cl, List.length_map, hr, g1, g2, hw, hr2, g4, g5] <;> exact rfl) (.of ?_)
                exact congrArg (PV.int .i64) (chk_bad (by omega) (by omega) (i := i.toNat) (k := k.toNat) (by omega) (by omega) ((bad_of (by omega)).1 (by omega)))
              · try simp only [decide_eq_true_eq, decide_eq_false_iff_not, Bool.or_eq_true, Bool.or_eq_false_iff, Bool.and_eq_true, Bool.and_eq_false_imp, Bool.not_eq_true', Bool.not_eq_false'] at hc5
                refine AW.skip ?_
                show AW _ _ _ _ _
                refine AW.regR1 rfl (by simp (maxSteps := 1000000) only [go_sem, cls, cl, List.length_map, hr, g1, g2, hw, hr2, g4, g5] <;> exact rfl) (by simp (disch := omega) only [go_sem, w64, wU, cls, cl, List.length_map, hr, g1, g2, hw, hr2, g4, g5] <;> exact rfl) ?_
                refine ⟨(k + 1), ?_, ?_, ?_⟩
                · (try dsimp only); omega
                · exact ⟨by omega, by omega, fun j hj => if e : (j : Int) < k then h6 j e else by (have hjk : j = k.toNat := by omega); subst hjk; exact bad_false (bad_of (by omega)) (by omega)⟩
                · refine Wk.sub ?_
                  simp (maxSteps := 1000000) (disch := omega) only [go_sem, w64, wU, cls, cl, List.length_map, hr, g1, g2, hw, hr2, g4, g5]
            · try simp only [decide_eq_true_eq, decide_eq_false_iff_not, Bool.or_eq_true, Bool.or_eq_false_iff, Bool.and_eq_true, Bool.and_eq_false_imp, Bool.not_eq_true', Bool.not_eq_false'] at hc4
              refine AW.exit ?_
              show AW _ _ _ _ _
              refine AW.regR1 rfl (by simp (maxSteps := 1000000) only [go_sem, cls, cl, List.length_map, hr, g1, g2] <;> exact rfl) (by simp (disch := omega) only [go_sem, w64, wU, cls, cl, List.length_map, hr, g1, g2] <;> exact rfl) ?_
              refine ⟨(i + 1), ?_, ?_, ?_⟩
              · (try dsimp only); omega
              · exact ⟨by omega, by omega, fun j hj => if e : (j : Int) < i then h3 j e else by (have hji : j = i.toNat := by omega); subst hji; (intro q hq; exact h6 q (by omega))⟩
              · refine Wk.sub ?_
                simp (maxSteps := 1000000) (disch := omega) only [go_sem, w64, wU, cls, cl, List.length_map, hr, g1, g2]
        · try simp only [decide_eq_true_eq, decide_eq_false_iff_not, Bool.or_eq_true, Bool.or_eq_false_iff, Bool.and_eq_true, Bool.and_eq_false_imp, Bool.not_eq_true', Bool.not_eq_false'] at hc3
          refine AW.exit ?_
          show AW _ _ _ _ _
          skip
          refine AW.regR rfl (by simp (maxSteps := 1000000) only [go_sem, cls, cl, List.length_map] <;> exact rfl) (by simp (disch := omega) only [go_sem, w64, wU, cls, cl, List.length_map] <;> exact rfl) ?_
          refine retK.fin rfl (by simp (maxSteps := 1000000) only [go_sem, cls, cl, List.length_map] <;> exact rfl) (by simp (maxSteps := 1000000) only [go_sem, cls, cl, List.length_map] <;> exact rfl) (.of ?_)
          exact congrArg (PV.int .i64) (chk_good (by omega) (by omega) (fun j hj => h3 j (by omega)))
theorem c85 (vars : Int) (l : List (List Int)) (hl : Wf l) : PC Try.prog 85 [.int .i64 vars, cls l] (.int .i64 (chkC vars l)) := by
  refine PC.start 51 Try.call85 Try.func85 rfl Try.ntmps85 Try.results85 (by simp only [go_sem]; exact rfl) fun z hz => ?_
  have hl1 := hl.1
  refine AW.regR rfl (by simp (maxSteps := 1000000) only [go_sem, cls, cl, List.length_map] <;> exact rfl) (by simp (disch := omega) only [go_sem, w64, wU, cls, cl, List.length_map] <;> exact rfl) ?_
  refine AW.seq ?_
  refine AW.regR rfl (by simp (maxSteps := 1000000) only [go_sem, cls, cl, List.length_map] <;> exact rfl) (by simp (disch := omega) only [go_sem, w64, wU, cls, cl, List.length_map] <;> exact rfl) ?_
  refine AW.cond (by simp (maxSteps := 1000000) only [go_sem, cls, cl, List.length_map] <;> exact rfl) (fun hc1 => ?_) (fun hc1 => ?_)
  · try simp only [decide_eq_true_eq, decide_eq_false_iff_not, Bool.or_eq_true, Bool.or_eq_false_iff, Bool.and_eq_true, Bool.and_eq_false_imp, Bool.not_eq_true', Bool.not_eq_false'] at hc1
    refine AW.regR rfl (by simp (maxSteps := 1000000) only [go_sem, cls, cl, List.length_map] <;> exact rfl) (by simp (disch := omega) only [go_sem, w64, wU, cls, cl, List.length_map] <;> exact rfl) ?_
    refine retK.fin rfl (by simp (maxSteps := 1000000) only [go_sem, cls, cl, List.length_map] <;> exact rfl) (by simp (maxSteps := 1000000) only [go_sem, cls, cl, List.length_map] <;> exact rfl) (.of ?_)
    exact congrArg (PV.int .i64) (chk_vars (by omega))
  · try simp only [decide_eq_true_eq, decide_eq_false_iff_not, Bool.or_eq_true, Bool.or_eq_false_iff, Bool.and_eq_true, Bool.and_eq_false_imp, Bool.not_eq_true', Bool.not_eq_false'] at hc1
    refine AW.skip ?_
    show AW _ _ _ _ _
    refine AW.seq ?_
    refine AW.regR rfl (by simp (maxSteps := 1000000) only [go_sem, cls, cl, List.length_map] <;> exact rfl) (by simp (disch := omega) only [go_sem, w64, wU, cls, cl, List.length_map] <;> exact rfl) ?_
    refine AW.cond (by simp (maxSteps := 1000000) only [go_sem, cls, cl, List.length_map] <;> exact rfl) (fun hc2 => ?_) (fun hc2 => ?_)
    · try simp only [decide_eq_true_eq, decide_eq_false_iff_not, Bool.or_eq_true, Bool.or_eq_false_iff, Bool.and_eq_true, Bool.and_eq_false_imp, Bool.not_eq_true', Bool.not_eq_false'] at hc2
      refine AW.regR rfl (by simp (maxSteps := 1000000) only [go_sem, cls, cl, List.length_map] <;> exact rfl) (by simp (disch := omega) only [go_sem, w64, wU, cls, cl, List.length_map] <;> exact rfl) ?_
      refine retK.fin rfl (by simp (maxSteps := 1000000) only [go_sem, cls, cl, List.length_map] <;> exact rfl) (by simp (maxSteps := 1000000) only [go_sem, cls, cl, List.length_map] <;> exact rfl) (.of ?_)
      exact congrArg (PV.int .i64) (chk_many (by omega) (by omega))
    · try simp only [decide_eq_true_eq, decide_eq_false_iff_not, Bool.or_eq_true, Bool.or_eq_false_iff, Bool.and_eq_true, Bool.and_eq_false_imp, Bool.not_eq_true', Bool.not_eq_false'] at hc2
      refine AW.skip ?_
      show AW _ _ _ _ _
      refine AW.seq ?_
      refine AW.regR rfl (by simp (maxSteps := 1000000) only [go_sem, cls, cl, List.length_map] <;> exact rfl) (by simp (disch := omega) only [go_sem, w64, wU, cls, cl, List.length_map] <;> exact rfl) ?_
      refine AW.block ?_
      refine AW.loopVh (α := (Int)) (fun (i : (Int)) => [(5, .pv (.int .i64 i))]) (fun (i : (Int)) => (0 ≤ i) ∧ (i ≤ (l.length : Int)) ∧ (∀ j : Nat, (j : Int) < i → ∀ k : Nat, k < (l.getD j []).length → badX vars ((l.getD j []).getD k 0) = false)) (fun (i : (Int)) => ((l.length : Int) - i).toNat) 0 ?_ ?_ ?_
      · exact ⟨by omega, by omega, fun j hj => by omega⟩
      · refine Wk.sub ?_
        simp (maxSteps := 1000000) (disch := omega) only [go_sem, w64, wU, cls, cl, List.length_map]
      · rintro i hF _ ht
        simp only [updT, go_sem] at ht
        subst ht
        obtain ⟨h1, h2, h3⟩ := hF
        refine AW.seq ?_
        refine AW.regR rfl (by simp (maxSteps := 1000000) only [go_sem, cls, cl, List.length_map] <;> exact rfl) (by simp (disch := omega) only [go_sem, w64, wU, cls, cl, List.length_map] <;> exact rfl) ?_
        refine AW.cond (by simp (maxSteps := 1000000) only [go_sem, cls, cl, List.length_map] <;> exact rfl) (fun hc3 => ?_) (fun hc3 => ?_)
        · try simp only [decide_eq_true_eq, decide_eq_false_iff_not, Bool.or_eq_true, Bool.or_eq_false_iff, Bool.and_eq_true, Bool.and_eq_false_imp, Bool.not_eq_true', Bool.not_eq_false'] at hc3
          have hr : (l.map fun c => [PV.lst false 1 (c.map fun x => [PV.int .i64 x])])[i.toNat]? = some [.lst false 1 ((l.getD i.toNat []).map fun x => [.int .i64 x])] := cls_at ⟨h1, hc3⟩
          have g1 : 0 ≤ i := h1
          have g2 : i < (l.length : Int) := hc3
          refine AW.skip ?_
          show AW _ _ _ _ _
          refine AW.seq ?_
          refine AW.block ?_
          refine AW.regR rfl (by simp (maxSteps := 1000000) only [go_sem, cls, cl, List.length_map, hr, g1, g2] <;> exact rfl) (by simp (disch := omega) only [go_sem, w64, wU, cls, cl, List.length_map, hr, g1, g2] <;> exact rfl) ?_
          refine AW.block ?_
          refine AW.loopVh (α := (Int)) (fun (k : (Int)) => [(6, .pv (.int .i64 k))]) (fun (k : (Int)) => (0 ≤ k) ∧ (k ≤ ((l.getD i.toNat []).length : Int)) ∧ (∀ j : Nat, (j : Int) < k → badX vars ((l.getD i.toNat []).getD j 0) = false)) (fun (k : (Int)) => (((l.getD i.toNat []).length : Int) - k).toNat) 0 ?_ ?_ ?_
          · exact ⟨by omega, by omega, fun j hj => by omega⟩
          · refine Wk.sub ?_
            simp (maxSteps := 1000000) (disch := omega) only [go_sem, w64, wU, cls, cl, List.length_map, hr, g1, g2]
          · rintro k hF _ ht
            simp only [updT, go_sem] at ht
            subst ht
            obtain ⟨h4, h5, h6⟩ := hF
            refine AW.seq ?_
            refine AW.regR rfl (by simp (maxSteps := 1000000) only [go_sem, cls, cl, List.length_map, hr, g1, g2] <;> exact rfl) (by simp (disch := omega) only [go_sem, w64, wU, cls, cl, List.length_map, hr, g1, g2] <;> exact rfl) ?_
            refine AW.cond (by simp (maxSteps := 1000000) only [go_sem, cls, cl, List.length_map, hr, g1, g2] <;> exact rfl) (fun hc4 => ?_) (fun hc4 => ?_)
            · try simp only [decide_eq_true_eq, decide_eq_false_iff_not, Bool.or_eq_true, Bool.or_eq_false_iff, Bool.and_eq_true, Bool.and_eq_false_imp, Bool.not_eq_true', Bool.not_eq_false'] at hc4
              have hw : ((l.getD i.toNat []).length : Int) ≤ 9223372036854775807 := (hl.at (by omega)).1
              have hr2 : ((l.getD i.toNat []).map fun x => [PV.int .i64 x])[k.toNat]? = some [.int .i64 ((l.getD i.toNat []).getD k.toNat 0)] := cl_at ⟨h4, hc4⟩
              have g4 : 0 ≤ k := h4
              have g5 : k < ((l.getD i.toNat []).length : Int) := hc4
              refine AW.skip ?_
              show AW _ _ _ _ _
              refine AW.seq ?_
              refine AW.block ?_
              refine AW.regR rfl (by simp (maxSteps := 1000000) only [go_sem, cls, cl, List.length_map, hr, g1, g2, hw, hr2, g4, g5] <;> exact rfl) (by simp (disch := omega) only [go_sem, w64, wU, cls, cl, List.length_map, hr, g1, g2, hw, hr2, g4, g5] <;> exact rfl) ?_
              refine AW.cond (by simp (maxSteps := 1000000) only [go_sem, cls, cl, List.length_map, hr, g1, g2, hw, hr2, g4, g5] <;> exact rfl) (fun hc5 => ?_) (fun hc5 => ?_)
              · try simp only [decide_eq_true_eq, decide_eq_false_iff_not, Bool.or_eq_true, Bool.or_eq_false_iff, Bool.and_eq_true, Bool.and_eq_false_imp, Bool.not_eq_true', Bool.not_eq_false'] at hc5
                refine AW.regR rfl (by simp (maxSteps := 1000000) only [go_sem, cls, cl, List.length_map, hr, g1, g2, hw, hr2, g4, g5] <;> exact rfl) (by simp (disch := omega) only [go_sem, w64, wU, cls, cl, List.length_map, hr, g1, g2, hw, hr2, g4, g5] <;> exact rfl) ?_
                refine retK.fin rfl (by simp (maxSteps := 1000000) only [go_sem, cls, cl, List.length_map, hr, g1, g2, hw, hr2, g4, g5] <;> exact rfl) (by simp (maxSteps := 1000000) only [go_sem, cls, cl, List.length_map, hr, g1, g2, hw, hr2, g4, g5] <;> exact rfl) (.of ?_)
                exact congrArg (PV.int .i64) (chk_bad (by omega) (by omega) (i := i.toNat) (k := k.toNat) (by omega) (by omega) ((bad_of2 ((hl.at (by omega)).2 _ (getD_mem (by omega)))).1 (by omega)))
              · try simp only [decide_eq_true_eq, decide_eq_false_iff_not, Bool.or_eq_true, Bool.or_eq_false_iff, Bool.and_eq_true, Bool.and_eq_false_imp, Bool.not_eq_true', Bool.not_eq_false'] at hc5
                refine AW.skip ?_
                show AW _ _ _ _ _
                refine AW.regR1 rfl (by simp (maxSteps := 1000000) only [go_sem, cls, cl, List.length_map, hr, g1, g2, hw, hr2, g4, g5] <;> exact rfl) (by simp (disch := omega) only [go_sem, w64, wU, cls, cl, List.length_map, hr, g1, g2, hw, hr2, g4, g5] <;> exact rfl) ?_
                refine ⟨(k + 1), ?_, ?_, ?_⟩
                · (try dsimp only); omega
                · exact ⟨by omega, by omega, fun j hj => if e : (j : Int) < k then h6 j e else by (have hjk : j = k.toNat := by omega); subst hjk; exact bad_false (bad_of2 ((hl.at (by omega)).2 _ (getD_mem (by omega)))) (by omega)⟩
                · refine Wk.sub ?_
                  simp (maxSteps := 1000000) (disch := omega) only [go_sem, w64, wU, cls, cl, List.length_map, hr, g1, g2, hw, hr2, g4, g5]
            · try simp only [decide_eq_true_eq, decide_eq_false_iff_not, Bool.or_eq_true, Bool.or_eq_false_iff, Bool.and_eq_true, Bool.and_eq_false_imp, Bool.not_eq_true', Bool.not_eq_false'] at hc4
              refine AW.exit ?_
              show AW _ _ _ _ _
              refine AW.regR1 rfl (by simp (maxSteps := 1000000) only [go_sem, cls, cl, List.length_map, hr, g1, g2] <;> exact rfl) (by simp (disch := omega) only [go_sem, w64, wU, cls, cl, List.length_map, hr, g1, g2] <;> exact rfl) ?_
              refine ⟨(i + 1), ?_, ?_, ?_⟩
              · (try dsimp only); omega
              · exact ⟨by omega, by omega, fun j hj => if e : (j : Int) < i then h3 j e else by (have hji : j = i.toNat := by omega); subst hji; (intro q hq; exact h6 q (by omega))⟩
              · refine Wk.sub ?_
                simp (maxSteps := 1000000) (disch := omega) only [go_sem, w64, wU, cls, cl, List.length_map, hr, g1, g2]
        · try simp only [decide_eq_true_eq, decide_eq_false_iff_not, Bool.or_eq_true, Bool.or_eq_false_iff, Bool.and_eq_true, Bool.and_eq_false_imp, Bool.not_eq_true', Bool.not_eq_false'] at hc3
          refine AW.exit ?_
          show AW _ _ _ _ _
          skip
          refine AW.regR rfl (by simp (maxSteps := 1000000) only [go_sem, cls, cl, List.length_map] <;> exact rfl) (by simp (disch := omega) only [go_sem, w64, wU, cls, cl, List.length_map] <;> exact rfl) ?_
          refine retK.fin rfl (by simp (maxSteps := 1000000) only [go_sem, cls, cl, List.length_map] <;> exact rfl) (by simp (maxSteps := 1000000) only [go_sem, cls, cl, List.length_map] <;> exact rfl) (.of ?_)
          exact congrArg (PV.int .i64) (chk_good (by omega) (by omega) (fun j hj => h3 j (by omega)))
end Go.Ab.Try
