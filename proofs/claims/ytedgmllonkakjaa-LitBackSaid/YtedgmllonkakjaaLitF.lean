/- The functions of the literals' layer, each with what it returns. -/
import Derived.Test.YtedgmllonkakjaaD1
import Derived.Test.YtedgmllonkakjaaTy
namespace Go.Ab.Try
open Go.Proofs Go.Ab
set_option linter.unusedVariables false
set_option linter.unusedSimpArgs false
set_option maxRecDepth 100000
theorem follows : Try.prog.follows .mixedOrders = true := by kernel_rfl
def ofV (l : Int) : Int := if l < 0 then -1 else l / 2
def ofN (l : Int) : Bool := decide (0 ≤ l ∧ l % 2 = 1)
def mk (v : Int) (neg : Bool) : Int := if v < 0 ∨ 1048576 ≤ v then 0 else if neg = true then 2 * v + 1 else 2 * v
def mkE (v : Int) : Int := if v < 0 ∨ 1048576 ≤ v then 10 else 0
def notL (l : Int) : Int := if l < 0 then l else if l % 2 = 0 then l + 1 else l - 1
def num (l : Int) : Int := if ofN l = true then -(ofV l + 1) else ofV l + 1
def ofA (n : Int) : Int := if n < 0 then -(n + 1) else n - 1
def bools (b : Bool) (m : List Bool) : PV := .lst b 1 (m.map fun x => [.bool x])
def hold (l : Int) (m : List Bool) : Bool := if l < 0 then false else (m.getD (ofV l).toNat false != ofN l)
theorem bools_at {m : List Bool} {j : Int} (h : 0 ≤ j ∧ j < m.length) : (m.map fun x => [PV.bool x])[j.toNat]? = some [.bool (m.getD j.toNat false)] := by
  have : j.toNat < m.length := by omega
  simp [this]
theorem ofV_two {v : Int} (h : 0 ≤ v) : ofV (v * 2) = v := by unfold ofV; rw [if_neg (by omega)]; omega
theorem ofN_two (v : Int) : ofN (v * 2) = false := by unfold ofN; simp
theorem ofV_rng {l : Int} (h : I64 l) : -1 ≤ ofV l ∧ ofV l ≤ 4611686018427387903 := by unfold I64 at h; unfold ofV; split <;> omega
theorem c78 (l : Int) : PC Try.prog 78 [.int .i64 l] (.agg [.int .i64 (ofV l), .bool (ofN l)]) := by
  refine PC.start 12 Try.call78 Try.func78 rfl Try.ntmps78 Try.results78 (by simp only [go_sem]; exact rfl) fun z hz => ?_
  refine AW.regR rfl (by simp only [go_sem] <;> exact rfl) rfl ?_
  refine AW.seq ?_
  refine AW.regR rfl (by simp only [go_sem] <;> exact rfl) rfl ?_
  refine AW.cond (by simp only [go_sem] <;> exact rfl) (fun hc1 => ?_) (fun hc1 => ?_)
  · try simp only [decide_eq_true_eq, decide_eq_false_iff_not, Bool.or_eq_true, Bool.or_eq_false_iff, Bool.and_eq_true, Bool.and_eq_false_imp, Bool.not_eq_true', Bool.not_eq_false'] at hc1
    refine AW.regR rfl (by simp only [go_sem] <;> exact rfl) rfl ?_
    refine retK.fin rfl (by simp only [go_sem] <;> exact rfl) (by simp only [go_sem] <;> exact rfl) (.of ?_)
    simp [ofV, ofN, hc1]; omega
  · try simp only [decide_eq_true_eq, decide_eq_false_iff_not, Bool.or_eq_true, Bool.or_eq_false_iff, Bool.and_eq_true, Bool.and_eq_false_imp, Bool.not_eq_true', Bool.not_eq_false'] at hc1
    refine AW.skip ?_
    show AW _ _ _ _ _
    refine AW.regR rfl (by simp only [go_sem] <;> exact rfl) rfl ?_
    refine retK.fin rfl (by simp only [go_sem] <;> exact rfl) (by simp only [go_sem] <;> exact rfl) (.of ?_)
    simp [ofV, ofN, ishr_1, iand_1, hc1]; omega
theorem c29 (v : Int) (neg : Bool) : PC Try.prog 29 [.int .i64 v, .bool neg] (.tup [.int .i64 (mk v neg), .int .i64 (mkE v)]) := by
  refine PC.start 24 Try.call29 Try.func29 rfl Try.ntmps29 Try.results29 (by simp only [go_sem]; exact rfl) fun z hz => ?_
  refine AW.regR rfl (by simp only [go_sem] <;> exact rfl) rfl ?_
  refine AW.seq ?_
  refine AW.regR rfl (by simp only [go_sem] <;> exact rfl) rfl ?_
  refine AW.cond (by simp only [go_sem] <;> exact rfl) (fun hc1 => ?_) (fun hc1 => ?_)
  · try simp only [decide_eq_true_eq, decide_eq_false_iff_not, Bool.or_eq_true, Bool.or_eq_false_iff, Bool.and_eq_true, Bool.and_eq_false_imp, Bool.not_eq_true', Bool.not_eq_false'] at hc1
    refine AW.regR rfl (by simp only [go_sem] <;> exact rfl) rfl ?_
    refine retK.fin rfl (by simp only [go_sem] <;> exact rfl) (by simp only [go_sem] <;> exact rfl) (.of ?_)
    simp [mk, mkE, hc1]
  · try simp only [decide_eq_true_eq, decide_eq_false_iff_not, Bool.or_eq_true, Bool.or_eq_false_iff, Bool.and_eq_true, Bool.and_eq_false_imp, Bool.not_eq_true', Bool.not_eq_false'] at hc1
    refine AW.skip ?_
    show AW _ _ _ _ _
    refine AW.regR rfl (by simp only [go_sem] <;> exact rfl) rfl ?_
    refine AW.seq ?_
    refine AW.regS rfl ?_
    refine ARN.run1 (by simp only [go_sem] <;> exact rfl) ?_
    refine ARN.pcall (fun hp => c78 _) rfl (by simp only [go_sem] <;> exact rfl) (by simp only [go_sem]) (by simp only [go_sem] <;> exact rfl) ?_
    refine ARN.run1 (by simp only [go_sem] <;> exact rfl) ?_
    refine ARN.fin (by simp only [go_sem] <;> exact rfl) ?_
    refine AW.cond (by simp only [go_sem] <;> exact rfl) (fun hc2 => ?_) (fun hc2 => ?_)
    · try simp only [decide_eq_true_eq, decide_eq_false_iff_not, Bool.or_eq_true, Bool.or_eq_false_iff, Bool.and_eq_true, Bool.and_eq_false_imp, Bool.not_eq_true', Bool.not_eq_false'] at hc2
      refine AW.regR1 rfl (by simp only [go_sem] <;> exact rfl) rfl ?_
      show AW _ _ _ _ _
      refine AW.regR rfl (by simp only [go_sem] <;> exact rfl) rfl ?_
      refine retK.fin rfl (by simp only [go_sem] <;> exact rfl) (by simp only [go_sem] <;> exact rfl) (.of ?_)
      have e := ishl_1 v; rw [w64 (by omega) (by omega)] at e; rw [e] at hc2 ⊢; rw [ofV_two (by omega), ofN_two] at hc2; have hn : neg = true := by simpa using hc2
      subst hn; rw [w64 (by omega) (by omega)]; simp [mk, mkE, hc1]; omega
    · try simp only [decide_eq_true_eq, decide_eq_false_iff_not, Bool.or_eq_true, Bool.or_eq_false_iff, Bool.and_eq_true, Bool.and_eq_false_imp, Bool.not_eq_true', Bool.not_eq_false'] at hc2
      refine AW.skip ?_
      show AW _ _ _ _ _
      refine AW.regR rfl (by simp only [go_sem] <;> exact rfl) rfl ?_
      refine retK.fin rfl (by simp only [go_sem] <;> exact rfl) (by simp only [go_sem] <;> exact rfl) (.of ?_)
      have e := ishl_1 v; rw [w64 (by omega) (by omega)] at e; rw [e] at hc2 ⊢; rw [ofV_two (by omega), ofN_two] at hc2; have hn : neg = false := by simpa using hc2
      subst hn; simp [mk, mkE, hc1]; omega
theorem c30 (v : Int) (neg : Bool) : PC Try.prog 30 [.int .i64 v, .bool neg] (.tup [.int .i64 (mk v neg), .int .i64 (mkE v)]) := by
  refine PC.start 18 Try.call30 Try.func30 rfl Try.ntmps30 Try.results30 (by simp only [go_sem]; exact rfl) fun z hz => ?_
  refine AW.regR rfl (by simp only [go_sem] <;> exact rfl) rfl ?_
  refine AW.seq ?_
  refine AW.regR rfl (by simp only [go_sem] <;> exact rfl) rfl ?_
  refine AW.cond (by simp only [go_sem] <;> exact rfl) (fun hc1 => ?_) (fun hc1 => ?_)
  · try simp only [decide_eq_true_eq, decide_eq_false_iff_not, Bool.or_eq_true, Bool.or_eq_false_iff, Bool.and_eq_true, Bool.and_eq_false_imp, Bool.not_eq_true', Bool.not_eq_false'] at hc1
    refine AW.regR rfl (by simp only [go_sem] <;> exact rfl) rfl ?_
    refine retK.fin rfl (by simp only [go_sem] <;> exact rfl) (by simp only [go_sem] <;> exact rfl) (.of ?_)
    simp [mk, mkE, hc1]
  · try simp only [decide_eq_true_eq, decide_eq_false_iff_not, Bool.or_eq_true, Bool.or_eq_false_iff, Bool.and_eq_true, Bool.and_eq_false_imp, Bool.not_eq_true', Bool.not_eq_false'] at hc1
    refine AW.skip ?_
    show AW _ _ _ _ _
    refine AW.seq ?_
    refine AW.regR rfl (by simp only [go_sem] <;> exact rfl) rfl ?_
    refine AW.cond (by simp only [go_sem] <;> exact rfl) (fun hc2 => ?_) (fun hc2 => ?_)
    · try simp only [decide_eq_true_eq, decide_eq_false_iff_not, Bool.or_eq_true, Bool.or_eq_false_iff, Bool.and_eq_true, Bool.and_eq_false_imp, Bool.not_eq_true', Bool.not_eq_false'] at hc2
      refine AW.regR rfl (by simp only [go_sem] <;> exact rfl) rfl ?_
      refine retK.fin rfl (by simp only [go_sem] <;> exact rfl) (by simp only [go_sem] <;> exact rfl) (.of ?_)
      rw [w64 (n := 2 * v) (by omega) (by omega), w64 (by omega) (by omega)]; simp [mk, mkE, hc1, hc2]
    · try simp only [decide_eq_true_eq, decide_eq_false_iff_not, Bool.or_eq_true, Bool.or_eq_false_iff, Bool.and_eq_true, Bool.and_eq_false_imp, Bool.not_eq_true', Bool.not_eq_false'] at hc2
      refine AW.skip ?_
      show AW _ _ _ _ _
      refine AW.regR rfl (by simp only [go_sem] <;> exact rfl) rfl ?_
      refine retK.fin rfl (by simp only [go_sem] <;> exact rfl) (by simp only [go_sem] <;> exact rfl) (.of ?_)
      rw [w64 (n := 2 * v) (by omega) (by omega)]; simp [mk, mkE, hc1, hc2]
theorem c31 (n : Int) (h : I64 n) : PC Try.prog 31 [.int .i64 n] (.tup [.int .i64 (mk (ofA n) (decide (n < 0))), .int .i64 (mkE (ofA n))]) := by
  refine PC.start 17 Try.call31 Try.func31 rfl Try.ntmps31 Try.results31 (by simp only [go_sem]; exact rfl) fun z hz => ?_
  refine AW.regR rfl (by simp only [go_sem] <;> exact rfl) rfl ?_
  refine AW.seq ?_
  refine AW.regR rfl (by simp only [go_sem] <;> exact rfl) rfl ?_
  refine AW.cond (by simp only [go_sem] <;> exact rfl) (fun hc1 => ?_) (fun hc1 => ?_)
  · try simp only [decide_eq_true_eq, decide_eq_false_iff_not, Bool.or_eq_true, Bool.or_eq_false_iff, Bool.and_eq_true, Bool.and_eq_false_imp, Bool.not_eq_true', Bool.not_eq_false'] at hc1
    refine AW.regS rfl ?_
    refine ARN.run1 (by simp only [go_sem] <;> exact rfl) ?_
    refine ARN.pcall (fun hp => c29 _ _) rfl (by simp only [go_sem] <;> exact rfl) (by simp only [go_sem]) (by simp only [go_sem] <;> exact rfl) ?_
    refine ARN.run1 (by simp only [go_sem] <;> exact rfl) ?_
    refine ARN.fin (by simp only [go_sem] <;> exact rfl) ?_
    refine retK.fin rfl (by simp only [go_sem] <;> exact rfl) (by simp only [go_sem] <;> exact rfl) (.of ?_)
    unfold I64 at h; rw [w64 (n := n + 1) (by omega) (by omega), w64 (by omega) (by omega)]; simp [ofA, hc1]
  · try simp only [decide_eq_true_eq, decide_eq_false_iff_not, Bool.or_eq_true, Bool.or_eq_false_iff, Bool.and_eq_true, Bool.and_eq_false_imp, Bool.not_eq_true', Bool.not_eq_false'] at hc1
    refine AW.skip ?_
    show AW _ _ _ _ _
    refine AW.regS rfl ?_
    refine ARN.run1 (by simp only [go_sem] <;> exact rfl) ?_
    refine ARN.pcall (fun hp => c29 _ _) rfl (by simp only [go_sem] <;> exact rfl) (by simp only [go_sem]) (by simp only [go_sem] <;> exact rfl) ?_
    refine ARN.run1 (by simp only [go_sem] <;> exact rfl) ?_
    refine ARN.fin (by simp only [go_sem] <;> exact rfl) ?_
    refine retK.fin rfl (by simp only [go_sem] <;> exact rfl) (by simp only [go_sem] <;> exact rfl) (.of ?_)
    unfold I64 at h; rw [w64 (by omega) (by omega)]; simp [ofA, hc1]
theorem c32 (n : Int) (h : I64 n) : PC Try.prog 32 [.int .i64 n] (.tup [.int .i64 (mk (ofA n) (decide (n < 0))), .int .i64 (mkE (ofA n))]) := by
  refine PC.start 21 Try.call32 Try.func32 rfl Try.ntmps32 Try.results32 (by simp only [go_sem]; exact rfl) fun z hz => ?_
  refine AW.regR rfl (by simp only [go_sem] <;> exact rfl) rfl ?_
  refine AW.seq ?_
  refine AW.block ?_
  refine AW.regR rfl (by simp only [go_sem] <;> exact rfl) rfl ?_
  refine AW.cond (by simp only [go_sem] <;> exact rfl) (fun hc1 => ?_) (fun hc1 => ?_)
  · try simp only [decide_eq_true_eq, decide_eq_false_iff_not, Bool.or_eq_true, Bool.or_eq_false_iff, Bool.and_eq_true, Bool.and_eq_false_imp, Bool.not_eq_true', Bool.not_eq_false'] at hc1
    refine AW.regS rfl ?_
    refine ARN.run1 (by simp only [go_sem] <;> exact rfl) ?_
    refine ARN.pcall (fun hp => c30 _ _) rfl (by simp only [go_sem] <;> exact rfl) (by simp only [go_sem]) (by simp only [go_sem] <;> exact rfl) ?_
    refine ARN.run1 (by simp only [go_sem] <;> exact rfl) ?_
    refine ARN.fin (by simp only [go_sem] <;> exact rfl) ?_
    refine retK.fin rfl (by simp only [go_sem] <;> exact rfl) (by simp only [go_sem] <;> exact rfl) (.of ?_)
    unfold I64 at h; rw [w64 (by omega) (by omega)]; simp [ofA, show ¬ n < 0 by omega]
  · try simp only [decide_eq_true_eq, decide_eq_false_iff_not, Bool.or_eq_true, Bool.or_eq_false_iff, Bool.and_eq_true, Bool.and_eq_false_imp, Bool.not_eq_true', Bool.not_eq_false'] at hc1
    refine AW.regR rfl (by simp only [go_sem] <;> exact rfl) rfl ?_
    refine AW.cond (by simp only [go_sem] <;> exact rfl) (fun hc2 => ?_) (fun hc2 => ?_)
    · try simp only [decide_eq_true_eq, decide_eq_false_iff_not, Bool.or_eq_true, Bool.or_eq_false_iff, Bool.and_eq_true, Bool.and_eq_false_imp, Bool.not_eq_true', Bool.not_eq_false'] at hc2
      refine AW.regS rfl ?_
      refine ARN.run1 (by simp only [go_sem] <;> exact rfl) ?_
      refine ARN.pcall (fun hp => c30 _ _) rfl (by simp only [go_sem] <;> exact rfl) (by simp only [go_sem]) (by simp only [go_sem] <;> exact rfl) ?_
      refine ARN.run1 (by simp only [go_sem] <;> exact rfl) ?_
      refine ARN.fin (by simp only [go_sem] <;> exact rfl) ?_
      refine retK.fin rfl (by simp only [go_sem] <;> exact rfl) (by simp only [go_sem] <;> exact rfl) (.of ?_)
      unfold I64 at h; rw [w64 (n := n + 1) (by omega) (by omega), w64 (by omega) (by omega)]; simp [ofA, hc2]
    · try simp only [decide_eq_true_eq, decide_eq_false_iff_not, Bool.or_eq_true, Bool.or_eq_false_iff, Bool.and_eq_true, Bool.and_eq_false_imp, Bool.not_eq_true', Bool.not_eq_false'] at hc2
      refine AW.skip ?_
      show AW _ _ _ _ _
      refine AW.regR rfl (by simp only [go_sem] <;> exact rfl) rfl ?_
      refine retK.fin rfl (by simp only [go_sem] <;> exact rfl) (by simp only [go_sem] <;> exact rfl) (.of ?_)
      obtain rfl : n = 0 := by omega
      simp [ofA, mk, mkE]
theorem c34 (l : Int) : PC Try.prog 34 [.int .i64 l] (.int .i64 (ofV l)) := by
  refine PC.start 6 Try.call34 Try.func34 rfl Try.ntmps34 Try.results34 (by simp only [go_sem]; exact rfl) fun z hz => ?_
  refine AW.regR rfl (by simp only [go_sem] <;> exact rfl) rfl ?_
  refine AW.regS rfl ?_
  refine ARN.run1 (by simp only [go_sem] <;> exact rfl) ?_
  refine ARN.pcall (fun hp => c78 _) rfl (by simp only [go_sem] <;> exact rfl) (by simp only [go_sem]) (by simp only [go_sem] <;> exact rfl) ?_
  refine ARN.run1 (by simp only [go_sem] <;> exact rfl) ?_
  refine ARN.fin (by simp only [go_sem] <;> exact rfl) ?_
  refine retK.fin rfl (by simp only [go_sem] <;> exact rfl) (by simp only [go_sem] <;> exact rfl) (.of ?_)
  rfl
theorem c35 (l : Int) (h : I64 l) : PC Try.prog 35 [.int .i64 l] (.int .i64 (ofV l)) := by
  refine PC.start 7 Try.call35 Try.func35 rfl Try.ntmps35 Try.results35 (by simp only [go_sem]; exact rfl) fun z hz => ?_
  refine AW.regR rfl (by simp only [go_sem] <;> exact rfl) rfl ?_
  refine AW.seq ?_
  refine AW.regR rfl (by simp only [go_sem] <;> exact rfl) rfl ?_
  refine AW.cond (by simp only [go_sem] <;> exact rfl) (fun hc1 => ?_) (fun hc1 => ?_)
  · try simp only [decide_eq_true_eq, decide_eq_false_iff_not, Bool.or_eq_true, Bool.or_eq_false_iff, Bool.and_eq_true, Bool.and_eq_false_imp, Bool.not_eq_true', Bool.not_eq_false'] at hc1
    refine AW.regR rfl (by simp only [go_sem] <;> exact rfl) rfl ?_
    refine retK.fin rfl (by simp only [go_sem] <;> exact rfl) (by simp only [go_sem] <;> exact rfl) (.of ?_)
    simp [ofV, hc1]
  · try simp only [decide_eq_true_eq, decide_eq_false_iff_not, Bool.or_eq_true, Bool.or_eq_false_iff, Bool.and_eq_true, Bool.and_eq_false_imp, Bool.not_eq_true', Bool.not_eq_false'] at hc1
    refine AW.skip ?_
    show AW _ _ _ _ _
    refine AW.regR rfl (by simp only [go_sem] <;> exact rfl) rfl ?_
    refine retK.fin rfl (by simp only [go_sem] <;> exact rfl) (by simp only [go_sem] <;> exact rfl) (.of ?_)
    unfold I64 at h; rw [Int.tdiv_eq_ediv_of_nonneg (by omega), w64 (by omega) (by omega)]; simp [ofV, hc1]
theorem c36 (l : Int) : PC Try.prog 36 [.int .i64 l] (.bool (ofN l)) := by
  refine PC.start 6 Try.call36 Try.func36 rfl Try.ntmps36 Try.results36 (by simp only [go_sem]; exact rfl) fun z hz => ?_
  refine AW.regR rfl (by simp only [go_sem] <;> exact rfl) rfl ?_
  refine AW.regS rfl ?_
  refine ARN.run1 (by simp only [go_sem] <;> exact rfl) ?_
  refine ARN.pcall (fun hp => c78 _) rfl (by simp only [go_sem] <;> exact rfl) (by simp only [go_sem]) (by simp only [go_sem] <;> exact rfl) ?_
  refine ARN.run1 (by simp only [go_sem] <;> exact rfl) ?_
  refine ARN.fin (by simp only [go_sem] <;> exact rfl) ?_
  refine retK.fin rfl (by simp only [go_sem] <;> exact rfl) (by simp only [go_sem] <;> exact rfl) (.of ?_)
  rfl
theorem c37 (l : Int) : PC Try.prog 37 [.int .i64 l] (.bool (ofN l)) := by
  refine PC.start 10 Try.call37 Try.func37 rfl Try.ntmps37 Try.results37 (by simp only [go_sem]; exact rfl) fun z hz => ?_
  refine AW.regR rfl (by simp only [go_sem] <;> exact rfl) rfl ?_
  refine AW.regR rfl (by simp only [go_sem] <;> exact rfl) rfl ?_
  refine retK.fin rfl (by simp only [go_sem] <;> exact rfl) (by simp only [go_sem] <;> exact rfl) (.of ?_)
  by_cases hl : 0 ≤ l
  · rw [Int.tmod_eq_emod_of_nonneg hl]; simp [ofN]
  · simp [ofN, hl]
theorem c38 (l : Int) (h : I64 l) : PC Try.prog 38 [.int .i64 l] (.int .i64 (notL l)) := by
  refine PC.start 8 Try.call38 Try.func38 rfl Try.ntmps38 Try.results38 (by simp only [go_sem]; exact rfl) fun z hz => ?_
  refine AW.regR rfl (by simp only [go_sem] <;> exact rfl) rfl ?_
  refine AW.seq ?_
  refine AW.regR rfl (by simp only [go_sem] <;> exact rfl) rfl ?_
  refine AW.cond (by simp only [go_sem] <;> exact rfl) (fun hc1 => ?_) (fun hc1 => ?_)
  · try simp only [decide_eq_true_eq, decide_eq_false_iff_not, Bool.or_eq_true, Bool.or_eq_false_iff, Bool.and_eq_true, Bool.and_eq_false_imp, Bool.not_eq_true', Bool.not_eq_false'] at hc1
    refine AW.regR rfl (by simp only [go_sem] <;> exact rfl) rfl ?_
    refine retK.fin rfl (by simp only [go_sem] <;> exact rfl) (by simp only [go_sem] <;> exact rfl) (.of ?_)
    simp [notL, hc1]
  · try simp only [decide_eq_true_eq, decide_eq_false_iff_not, Bool.or_eq_true, Bool.or_eq_false_iff, Bool.and_eq_true, Bool.and_eq_false_imp, Bool.not_eq_true', Bool.not_eq_false'] at hc1
    refine AW.skip ?_
    show AW _ _ _ _ _
    refine AW.regR rfl (by simp only [go_sem] <;> exact rfl) rfl ?_
    refine retK.fin rfl (by simp only [go_sem] <;> exact rfl) (by simp only [go_sem] <;> exact rfl) (.of ?_)
    unfold I64 at h; rw [ixor_1 (by omega) (by omega)]; simp [notL, hc1]
theorem c39 (l : Int) (h : I64 l) : PC Try.prog 39 [.int .i64 l] (.int .i64 (notL l)) := by
  refine PC.start 13 Try.call39 Try.func39 rfl Try.ntmps39 Try.results39 (by simp only [go_sem]; exact rfl) fun z hz => ?_
  refine AW.regR rfl (by simp only [go_sem] <;> exact rfl) rfl ?_
  refine AW.seq ?_
  refine AW.regR rfl (by simp only [go_sem] <;> exact rfl) rfl ?_
  refine AW.cond (by simp only [go_sem] <;> exact rfl) (fun hc1 => ?_) (fun hc1 => ?_)
  · try simp only [decide_eq_true_eq, decide_eq_false_iff_not, Bool.or_eq_true, Bool.or_eq_false_iff, Bool.and_eq_true, Bool.and_eq_false_imp, Bool.not_eq_true', Bool.not_eq_false'] at hc1
    refine AW.regR rfl (by simp only [go_sem] <;> exact rfl) rfl ?_
    refine retK.fin rfl (by simp only [go_sem] <;> exact rfl) (by simp only [go_sem] <;> exact rfl) (.of ?_)
    simp [notL, hc1]
  · try simp only [decide_eq_true_eq, decide_eq_false_iff_not, Bool.or_eq_true, Bool.or_eq_false_iff, Bool.and_eq_true, Bool.and_eq_false_imp, Bool.not_eq_true', Bool.not_eq_false'] at hc1
    refine AW.skip ?_
    show AW _ _ _ _ _
    refine AW.seq ?_
    refine AW.regR rfl (by simp only [go_sem] <;> exact rfl) rfl ?_
    refine AW.cond (by simp only [go_sem] <;> exact rfl) (fun hc2 => ?_) (fun hc2 => ?_)
    · try simp only [decide_eq_true_eq, decide_eq_false_iff_not, Bool.or_eq_true, Bool.or_eq_false_iff, Bool.and_eq_true, Bool.and_eq_false_imp, Bool.not_eq_true', Bool.not_eq_false'] at hc2
      refine AW.regR rfl (by simp only [go_sem] <;> exact rfl) rfl ?_
      refine retK.fin rfl (by simp only [go_sem] <;> exact rfl) (by simp only [go_sem] <;> exact rfl) (.of ?_)
      unfold I64 at h; rw [Int.tmod_eq_emod_of_nonneg (by omega)] at hc2; rw [w64 (by omega) (by omega)]; simp [notL, hc1, hc2]
    · try simp only [decide_eq_true_eq, decide_eq_false_iff_not, Bool.or_eq_true, Bool.or_eq_false_iff, Bool.and_eq_true, Bool.and_eq_false_imp, Bool.not_eq_true', Bool.not_eq_false'] at hc2
      refine AW.skip ?_
      show AW _ _ _ _ _
      refine AW.regR rfl (by simp only [go_sem] <;> exact rfl) rfl ?_
      refine retK.fin rfl (by simp only [go_sem] <;> exact rfl) (by simp only [go_sem] <;> exact rfl) (.of ?_)
      unfold I64 at h; rw [Int.tmod_eq_emod_of_nonneg (by omega)] at hc2; rw [w64 (by omega) (by omega)]; simp [notL, hc1, show l % 2 = 0 by omega]
theorem c40 (l : Int) (h : I64 l) : PC Try.prog 40 [.int .i64 l] (.int .i64 (num l)) := by
  refine PC.start 15 Try.call40 Try.func40 rfl Try.ntmps40 Try.results40 (by simp only [go_sem]; exact rfl) fun z hz => ?_
  refine AW.regR rfl (by simp only [go_sem] <;> exact rfl) rfl ?_
  refine AW.regS rfl ?_
  refine ARN.run1 (by simp only [go_sem] <;> exact rfl) ?_
  refine ARN.pcall (fun hp => c78 _) rfl (by simp only [go_sem] <;> exact rfl) (by simp only [go_sem]) (by simp only [go_sem] <;> exact rfl) ?_
  refine ARN.run1 (by simp only [go_sem] <;> exact rfl) ?_
  refine ARN.fin (by simp only [go_sem] <;> exact rfl) ?_
  refine AW.seq ?_
  refine AW.regR rfl (by simp only [go_sem] <;> exact rfl) rfl ?_
  refine AW.cond (by simp only [go_sem] <;> exact rfl) (fun hc1 => ?_) (fun hc1 => ?_)
  · try simp only [decide_eq_true_eq, decide_eq_false_iff_not, Bool.or_eq_true, Bool.or_eq_false_iff, Bool.and_eq_true, Bool.and_eq_false_imp, Bool.not_eq_true', Bool.not_eq_false'] at hc1
    refine AW.regR rfl (by simp only [go_sem] <;> exact rfl) rfl ?_
    refine retK.fin rfl (by simp only [go_sem] <;> exact rfl) (by simp only [go_sem] <;> exact rfl) (.of ?_)
    have := ofV_rng h; rw [w64 (n := ofV l + 1) (by omega) (by omega), w64 (by omega) (by omega)]; simp [num, hc1]
  · try simp only [decide_eq_true_eq, decide_eq_false_iff_not, Bool.or_eq_true, Bool.or_eq_false_iff, Bool.and_eq_true, Bool.and_eq_false_imp, Bool.not_eq_true', Bool.not_eq_false'] at hc1
    refine AW.skip ?_
    show AW _ _ _ _ _
    refine AW.regR rfl (by simp only [go_sem] <;> exact rfl) rfl ?_
    refine retK.fin rfl (by simp only [go_sem] <;> exact rfl) (by simp only [go_sem] <;> exact rfl) (.of ?_)
    have := ofV_rng h; rw [w64 (by omega) (by omega)]; simp [num, hc1]
theorem c41 (l : Int) (h : I64 l) : PC Try.prog 41 [.int .i64 l] (.int .i64 (num l)) := by
  refine PC.start 14 Try.call41 Try.func41 rfl Try.ntmps41 Try.results41 (by simp only [go_sem]; exact rfl) fun z hz => ?_
  refine AW.regR rfl (by simp only [go_sem] <;> exact rfl) rfl ?_
  refine AW.seq ?_
  refine AW.regR rfl (by simp only [go_sem] <;> exact rfl) rfl ?_
  refine AW.cond (by simp only [go_sem] <;> exact rfl) (fun hc1 => ?_) (fun hc1 => ?_)
  · try simp only [decide_eq_true_eq, decide_eq_false_iff_not, Bool.or_eq_true, Bool.or_eq_false_iff, Bool.and_eq_true, Bool.and_eq_false_imp, Bool.not_eq_true', Bool.not_eq_false'] at hc1
    refine AW.regR rfl (by simp only [go_sem] <;> exact rfl) rfl ?_
    refine retK.fin rfl (by simp only [go_sem] <;> exact rfl) (by simp only [go_sem] <;> exact rfl) (.of ?_)
    simp [num, ofV, ofN, hc1]
  · try simp only [decide_eq_true_eq, decide_eq_false_iff_not, Bool.or_eq_true, Bool.or_eq_false_iff, Bool.and_eq_true, Bool.and_eq_false_imp, Bool.not_eq_true', Bool.not_eq_false'] at hc1
    refine AW.skip ?_
    show AW _ _ _ _ _
    refine AW.seq ?_
    refine AW.regS rfl ?_
    refine ARN.run1 (by simp only [go_sem] <;> exact rfl) ?_
    refine ARN.pcall (fun hp => c37 _) rfl (by simp only [go_sem] <;> exact rfl) (by simp only [go_sem]) (by simp only [go_sem] <;> exact rfl) ?_
    refine ARN.fin (by simp only [go_sem] <;> exact rfl) ?_
    refine AW.cond (by simp only [go_sem] <;> exact rfl) (fun hc2 => ?_) (fun hc2 => ?_)
    · try simp only [decide_eq_true_eq, decide_eq_false_iff_not, Bool.or_eq_true, Bool.or_eq_false_iff, Bool.and_eq_true, Bool.and_eq_false_imp, Bool.not_eq_true', Bool.not_eq_false'] at hc2
      refine AW.regS rfl ?_
      refine ARN.run1 (by simp only [go_sem] <;> exact rfl) ?_
      refine ARN.pcall (fun hp => c35 _ h) rfl (by simp only [go_sem] <;> exact rfl) (by simp only [go_sem]) (by simp only [go_sem] <;> exact rfl) ?_
      refine ARN.run1 (by simp only [go_sem] <;> exact rfl) ?_
      refine ARN.fin (by simp only [go_sem] <;> exact rfl) ?_
      refine retK.fin rfl (by simp only [go_sem] <;> exact rfl) (by simp only [go_sem] <;> exact rfl) (.of ?_)
      have := ofV_rng h; rw [w64 (n := ofV l + 1) (by omega) (by omega), w64 (by omega) (by omega)]; simp [num, hc2]
    · try simp only [decide_eq_true_eq, decide_eq_false_iff_not, Bool.or_eq_true, Bool.or_eq_false_iff, Bool.and_eq_true, Bool.and_eq_false_imp, Bool.not_eq_true', Bool.not_eq_false'] at hc2
      refine AW.skip ?_
      show AW _ _ _ _ _
      refine AW.regS rfl ?_
      refine ARN.run1 (by simp only [go_sem] <;> exact rfl) ?_
      refine ARN.pcall (fun hp => c35 _ h) rfl (by simp only [go_sem] <;> exact rfl) (by simp only [go_sem]) (by simp only [go_sem] <;> exact rfl) ?_
      refine ARN.run1 (by simp only [go_sem] <;> exact rfl) ?_
      refine ARN.fin (by simp only [go_sem] <;> exact rfl) ?_
      refine retK.fin rfl (by simp only [go_sem] <;> exact rfl) (by simp only [go_sem] <;> exact rfl) (.of ?_)
      have := ofV_rng h; rw [w64 (by omega) (by omega)]; simp [num, hc2]
theorem bools_none {m : List Bool} {j : Int} (h : ¬ j < m.length) : (m.map fun x => [PV.bool x])[j.toNat]? = none := by
  have : m.length ≤ j.toNat := by omega
  simp [this]
theorem ofV_neg {l : Int} (h : ¬ ofV l < 0) : ¬ l < 0 := fun hl => h (by unfold ofV; rw [if_pos hl]; omega)
theorem hold_lt {l : Int} {m : List Bool} (h0 : ¬ l < 0) : (m.getD (ofV l).toNat false != ofN l) = hold l m := by unfold hold; rw [if_neg h0]
theorem hold_ge {l : Int} {m : List Bool} (h : I64 l) (h0 : ¬ l < 0) (hm : ¬ ofV l < m.length) : hold l m = ofN l := by
  have h1 : 0 ≤ ofV l := by unfold ofV; rw [if_neg h0]; omega
  have h2 : m.length ≤ (ofV l).toNat := by omega
  unfold hold
  rw [if_neg h0, List.getD_eq_getElem?_getD, List.getElem?_eq_none h2]
  simp
theorem nat_hold {l : Int} (h : I64 l) (h0 : ¬ l < 0) : 0 ≤ ofV l := by unfold ofV; rw [if_neg h0]; omega
theorem c42 (l : Int) (b : Bool) (m : List Bool) (h : I64 l) : PC Try.prog 42 [.int .i64 l, bools b m] (.bool (hold l m)) := by
  refine PC.start 26 Try.call42 Try.func42 rfl Try.ntmps42 Try.results42 (by simp only [go_sem]; exact rfl) fun z hz => ?_
  refine AW.regR rfl (by simp only [go_sem, bools] <;> exact rfl) rfl ?_
  refine AW.regS rfl ?_
  refine ARN.run1 (by simp only [go_sem, bools] <;> exact rfl) ?_
  refine ARN.pcall (fun hp => c78 _) rfl (by simp only [go_sem, bools] <;> exact rfl) (by simp only [go_sem]) (by simp only [go_sem, bools] <;> exact rfl) ?_
  refine ARN.run1 (by simp only [go_sem, bools] <;> exact rfl) ?_
  refine ARN.fin (by simp only [go_sem] <;> exact rfl) ?_
  refine AW.seq ?_
  refine AW.regR rfl (by simp only [go_sem, bools] <;> exact rfl) rfl ?_
  refine AW.cond (by simp only [go_sem, bools] <;> exact rfl) (fun hc1 => ?_) (fun hc1 => ?_)
  · try simp only [decide_eq_true_eq, decide_eq_false_iff_not, Bool.or_eq_true, Bool.or_eq_false_iff, Bool.and_eq_true, Bool.and_eq_false_imp, Bool.not_eq_true', Bool.not_eq_false'] at hc1
    refine AW.regR rfl (by simp only [go_sem, bools] <;> exact rfl) rfl ?_
    refine retK.fin rfl (by simp only [go_sem, bools] <;> exact rfl) (by simp only [go_sem, bools] <;> exact rfl) (.of ?_)
    have : l < 0 := by (unfold ofV at hc1; split at hc1 <;> omega)
    simp [hold, this]
  · try simp only [decide_eq_true_eq, decide_eq_false_iff_not, Bool.or_eq_true, Bool.or_eq_false_iff, Bool.and_eq_true, Bool.and_eq_false_imp, Bool.not_eq_true', Bool.not_eq_false'] at hc1
    refine AW.skip ?_
    show AW _ _ _ _ _
    by_cases hs4 : ofV l < (m.length : Int)
    · have hr := bools_at ⟨nat_hold h (ofV_neg hc1), hs4⟩; have h0 := nat_hold h (ofV_neg hc1)
      refine AW.regDS follows (by kernel_rfl) ?_
      refine ARE.run1 (by simp only [go_sem, bools, hs4, hr, h0, List.length_map] <;> exact rfl) ?_
      refine ARE.fin [0, 1, 0, 4, 15, 31, 63, 63, 191, 511, 1023, 2047, 0, 4096, 16383, 32767] _ (by kernel_rfl) (by simp only [go_sem, bools, hs4, hr, h0, List.length_map] <;> exact rfl) (by kernel_rfl) (by simp only [go_sem] <;> exact rfl) ?_
      refine retK.fin rfl (by simp only [go_sem, bools, hs4, hr, h0, List.length_map] <;> exact rfl) (by simp only [go_sem, bools, hs4, hr, h0, List.length_map] <;> exact rfl) (.of ?_)
      simp [hold, ofV_neg hc1, bne]
    · have hr := bools_none hs4
      have hb4 := decide_eq_false hs4
      refine AW.regDS follows (by kernel_rfl) ?_
      refine ARE.run1S (by simp only [go_sem, bools, hb4, hr, List.length_map] <;> exact rfl) ?_
      refine ARE.fin [0, 1, 0, 4, 15, 31, 63, 63, 191, 511, 1023, 2047, 0, 4096, 16383, 32767] _ (by kernel_rfl) (by simp only [go_sem, bools, hb4, hr, List.length_map] <;> exact rfl) (by kernel_rfl) (by simp only [go_sem] <;> exact rfl) ?_
      refine retK.fin rfl (by simp only [go_sem, bools, hb4, hr, List.length_map] <;> exact rfl) (by simp only [go_sem, bools, hb4, hr, List.length_map] <;> exact rfl) (.of ?_)
      simp [hold_ge h (ofV_neg hc1) hs4]
theorem c43 (l : Int) (b : Bool) (m : List Bool) (h : I64 l) : PC Try.prog 43 [.int .i64 l, bools b m] (.bool (hold l m)) := by
  refine PC.start 24 Try.call43 Try.func43 rfl Try.ntmps43 Try.results43 (by simp only [go_sem]; exact rfl) fun z hz => ?_
  refine AW.regR rfl (by simp only [go_sem, bools] <;> exact rfl) rfl ?_
  refine AW.seq ?_
  refine AW.regR rfl (by simp only [go_sem, bools] <;> exact rfl) rfl ?_
  refine AW.cond (by simp only [go_sem, bools] <;> exact rfl) (fun hc1 => ?_) (fun hc1 => ?_)
  · try simp only [decide_eq_true_eq, decide_eq_false_iff_not, Bool.or_eq_true, Bool.or_eq_false_iff, Bool.and_eq_true, Bool.and_eq_false_imp, Bool.not_eq_true', Bool.not_eq_false'] at hc1
    refine AW.regR rfl (by simp only [go_sem, bools] <;> exact rfl) rfl ?_
    refine retK.fin rfl (by simp only [go_sem, bools] <;> exact rfl) (by simp only [go_sem, bools] <;> exact rfl) (.of ?_)
    simp [hold, hc1]
  · try simp only [decide_eq_true_eq, decide_eq_false_iff_not, Bool.or_eq_true, Bool.or_eq_false_iff, Bool.and_eq_true, Bool.and_eq_false_imp, Bool.not_eq_true', Bool.not_eq_false'] at hc1
    refine AW.skip ?_
    show AW _ _ _ _ _
    by_cases hs3 : ofV l < (m.length : Int)
    · have hr := bools_at ⟨nat_hold h hc1, hs3⟩; have h0 := nat_hold h hc1
      refine AW.regS rfl ?_
      refine ARN.run1 (by simp only [go_sem, bools, hs3, hr, h0, List.length_map] <;> exact rfl) ?_
      refine ARN.pcall (fun hp => c35 _ h) rfl (by simp only [go_sem, bools, hs3, hr, h0, List.length_map] <;> exact rfl) (by simp only [go_sem]) (by simp only [go_sem, bools, hs3, hr, h0, List.length_map] <;> exact rfl) ?_
      refine ARN.run1 (by simp only [go_sem, bools, hs3, hr, h0, List.length_map] <;> exact rfl) ?_
      refine ARN.pcall (fun hp => c35 _ h) rfl (by simp only [go_sem, bools, hs3, hr, h0, List.length_map] <;> exact rfl) (by simp only [go_sem]) (by simp only [go_sem, bools, hs3, hr, h0, List.length_map] <;> exact rfl) ?_
      refine ARN.run1 (by simp only [go_sem, bools, hs3, hr, h0, List.length_map] <;> exact rfl) ?_
      refine ARN.fin (by simp only [go_sem] <;> exact rfl) ?_
      refine AW.regS rfl ?_
      refine ARN.run1 (by simp only [go_sem, bools, hs3, hr, h0, List.length_map] <;> exact rfl) ?_
      refine ARN.pcall (fun hp => c37 _) rfl (by simp only [go_sem, bools, hs3, hr, h0, List.length_map] <;> exact rfl) (by simp only [go_sem]) (by simp only [go_sem, bools, hs3, hr, h0, List.length_map] <;> exact rfl) ?_
      refine ARN.run1 (by simp only [go_sem, bools, hs3, hr, h0, List.length_map] <;> exact rfl) ?_
      refine ARN.fin (by simp only [go_sem] <;> exact rfl) ?_
      refine retK.fin rfl (by simp only [go_sem, bools, hs3, hr, h0, List.length_map] <;> exact rfl) (by simp only [go_sem, bools, hs3, hr, h0, List.length_map] <;> exact rfl) (.of ?_)
      simp [hold, hc1, bne]
    · have hr := bools_none hs3
      have hb3 := decide_eq_false hs3
      refine AW.regS rfl ?_
      refine ARN.run1S (by simp only [go_sem, bools, hb3, hr, List.length_map] <;> exact rfl) ?_
      refine ARN.pcall (fun hp => c35 _ h) rfl (by simp only [go_sem, bools, hb3, hr, List.length_map] <;> exact rfl) (by simp only [go_sem]) (by simp only [go_sem, bools, hb3, hr, List.length_map] <;> exact rfl) ?_
      refine ARN.run1S (by simp only [go_sem, bools, hb3, hr, List.length_map] <;> exact rfl) ?_
      first | (refine ARN.pcall (fun hp => c35 _ h) rfl (by simp only [go_sem, bools, hb3, hr, List.length_map] <;> exact rfl) (by simp only [go_sem]) (by simp only [go_sem, bools, hb3, hr, List.length_map] <;> exact rfl) ?_) | skip
      refine ARN.run1S (by simp only [go_sem, bools, hb3, hr, List.length_map] <;> exact rfl) ?_
      refine ARN.fin (by simp only [go_sem] <;> exact rfl) ?_
      refine AW.regS rfl ?_
      refine ARN.run1 (by simp only [go_sem, bools, hb3, hr, List.length_map] <;> exact rfl) ?_
      refine ARN.pcall (fun hp => c37 _) rfl (by simp only [go_sem, bools, hb3, hr, List.length_map] <;> exact rfl) (by simp only [go_sem]) (by simp only [go_sem, bools, hb3, hr, List.length_map] <;> exact rfl) ?_
      refine ARN.run1 (by simp only [go_sem, bools, hb3, hr, List.length_map] <;> exact rfl) ?_
      refine ARN.fin (by simp only [go_sem] <;> exact rfl) ?_
      refine retK.fin rfl (by simp only [go_sem, bools, hb3, hr, List.length_map] <;> exact rfl) (by simp only [go_sem, bools, hb3, hr, List.length_map] <;> exact rfl) (.of ?_)
      simp [hold_ge h hc1 hs3]
theorem c33  : PC Try.prog 33 [] (.bool true) := by
  refine PC.start 73 Try.call33 Try.func33 rfl Try.ntmps33 Try.results33 (by simp only [go_sem]; exact rfl) fun z hz => ?_
  refine AW.regR rfl (by simp only [go_sem] <;> exact rfl) rfl ?_
  refine AW.regS rfl ?_
  refine ARN.pcall (fun hp => c29 3 true) rfl (by simp only [go_sem] <;> exact rfl) (by simp only [go_sem]) (by simp only [go_sem] <;> exact rfl) ?_
  refine ARN.run1 (by simp only [go_sem] <;> exact rfl) ?_
  refine ARN.fin (by simp only [go_sem] <;> exact rfl) ?_
  refine AW.regS rfl ?_
  refine ARN.pcall (fun hp => c29 (-1) true) rfl (by simp only [go_sem] <;> exact rfl) (by simp only [go_sem]) (by simp only [go_sem] <;> exact rfl) ?_
  refine ARN.run1 (by simp only [go_sem] <;> exact rfl) ?_
  refine ARN.fin (by simp only [go_sem] <;> exact rfl) ?_
  refine AW.regS rfl ?_
  refine ARN.pcall (fun hp => c31 1 (by unfold I64; omega)) rfl (by simp only [go_sem] <;> exact rfl) (by simp only [go_sem]) (by simp only [go_sem] <;> exact rfl) ?_
  refine ARN.run1 (by simp only [go_sem] <;> exact rfl) ?_
  refine ARN.fin (by simp only [go_sem] <;> exact rfl) ?_
  refine AW.regS rfl ?_
  refine ARN.pcall (fun hp => c31 0 (by unfold I64; omega)) rfl (by simp only [go_sem] <;> exact rfl) (by simp only [go_sem]) (by simp only [go_sem] <;> exact rfl) ?_
  refine ARN.run1 (by simp only [go_sem] <;> exact rfl) ?_
  refine ARN.fin (by simp only [go_sem] <;> exact rfl) ?_
  refine AW.regS rfl ?_
  refine ARN.run1 (by simp only [go_sem] <;> exact rfl) ?_
  refine ARN.pcall (fun hp => c40 7 (by unfold I64; omega)) rfl (by simp only [go_sem] <;> exact rfl) (by simp only [go_sem]) (by simp only [go_sem] <;> exact rfl) ?_
  refine ARN.run1 (by simp only [go_sem] <;> exact rfl) ?_
  refine ARN.pcall (fun hp => c34 7) rfl (by simp only [go_sem] <;> exact rfl) (by simp only [go_sem]) (by simp only [go_sem] <;> exact rfl) ?_
  refine ARN.run1 (by simp only [go_sem] <;> exact rfl) ?_
  refine ARN.pcall (fun hp => c36 7) rfl (by simp only [go_sem] <;> exact rfl) (by simp only [go_sem]) (by simp only [go_sem] <;> exact rfl) ?_
  refine ARN.run1 (by simp only [go_sem] <;> exact rfl) ?_
  refine ARN.pcall (fun hp => c38 7 (by unfold I64; omega)) rfl (by simp only [go_sem] <;> exact rfl) (by simp only [go_sem]) (by simp only [go_sem] <;> exact rfl) ?_
  refine ARN.run1 (by simp only [go_sem] <;> exact rfl) ?_
  refine ARN.pcall (fun hp => (c42 7 true [] (by unfold I64; omega)).arg (ps := [.int .i64 7, .lst true 0 []]) ⟨Sub.refl _, Sub.nil _ _ _, trivial⟩) rfl (by simp only [go_sem] <;> exact rfl) (by simp only [go_sem]) (by simp only [go_sem] <;> exact rfl) ?_
  refine ARN.run1 (by simp only [go_sem] <;> exact rfl) ?_
  refine ARN.pcall (fun hp => (c42 6 true [] (by unfold I64; omega)).arg (ps := [.int .i64 6, .lst true 0 []]) ⟨Sub.refl _, Sub.nil _ _ _, trivial⟩) rfl (by simp only [go_sem] <;> exact rfl) (by simp only [go_sem]) (by simp only [go_sem] <;> exact rfl) ?_
  refine ARN.run1 (by simp only [go_sem] <;> exact rfl) ?_
  refine ARN.pcall (fun hp => c42 0 true [true] (by unfold I64; omega)) rfl (by simp only [go_sem] <;> exact rfl) (by simp only [go_sem]) (by simp only [go_sem] <;> exact rfl) ?_
  refine ARN.run1 (by simp only [go_sem] <;> exact rfl) ?_
  refine ARN.fin (by simp only [go_sem] <;> exact rfl) ?_
  refine retK.fin rfl (by simp only [go_sem] <;> exact rfl) (by simp only [go_sem] <;> exact rfl) (.of ?_)
  exact congrArg PV.bool (by decide)
theorem c9 (v : Int) (neg : Bool) (n : Int) (hv : I64 v) (hn : I64 n) : PC Try.prog 9 [.int .i64 v, .bool neg, .int .i64 n] (.bool true) := by
  refine PC.start 58 Try.call9 Try.func9 rfl Try.ntmps9 Try.results9 (by simp only [go_sem]; exact rfl) fun z hz => ?_
  refine AW.regR rfl (by simp only [go_sem] <;> exact rfl) rfl ?_
  refine AW.regS rfl ?_
  refine ARN.run1 (by simp only [go_sem] <;> exact rfl) ?_
  refine ARN.pcall (fun hp => c29 _ _) rfl (by simp only [go_sem] <;> exact rfl) (by simp only [go_sem]) (by simp only [go_sem] <;> exact rfl) ?_
  refine ARN.run1 (by simp only [go_sem] <;> exact rfl) ?_
  refine ARN.fin (by simp only [go_sem] <;> exact rfl) ?_
  refine AW.regS rfl ?_
  refine ARN.run1 (by simp only [go_sem] <;> exact rfl) ?_
  refine ARN.pcall (fun hp => c30 _ _) rfl (by simp only [go_sem] <;> exact rfl) (by simp only [go_sem]) (by simp only [go_sem] <;> exact rfl) ?_
  refine ARN.run1 (by simp only [go_sem] <;> exact rfl) ?_
  refine ARN.fin (by simp only [go_sem] <;> exact rfl) ?_
  refine AW.regS rfl ?_
  refine ARN.run1 (by simp only [go_sem] <;> exact rfl) ?_
  refine ARN.pcall (fun hp => c31 _ hn) rfl (by simp only [go_sem] <;> exact rfl) (by simp only [go_sem]) (by simp only [go_sem] <;> exact rfl) ?_
  refine ARN.run1 (by simp only [go_sem] <;> exact rfl) ?_
  refine ARN.fin (by simp only [go_sem] <;> exact rfl) ?_
  refine AW.regS rfl ?_
  refine ARN.run1 (by simp only [go_sem] <;> exact rfl) ?_
  refine ARN.pcall (fun hp => c32 _ hn) rfl (by simp only [go_sem] <;> exact rfl) (by simp only [go_sem]) (by simp only [go_sem] <;> exact rfl) ?_
  refine ARN.run1 (by simp only [go_sem] <;> exact rfl) ?_
  refine ARN.fin (by simp only [go_sem] <;> exact rfl) ?_
  refine AW.regS rfl ?_
  refine ARN.run1 (by simp only [go_sem] <;> exact rfl) ?_
  refine ARN.pcall (fun hp => c33) rfl (by simp only [go_sem] <;> exact rfl) (by simp only [go_sem]) (by simp only [go_sem] <;> exact rfl) ?_
  refine ARN.run1 (by simp only [go_sem] <;> exact rfl) ?_
  refine ARN.fin (by simp only [go_sem] <;> exact rfl) ?_
  refine retK.fin rfl (by simp only [go_sem] <;> exact rfl) (by simp only [go_sem] <;> exact rfl) (.of ?_)
  simp
theorem c10 (l : Int) (b : Bool) (m : List Bool) (h : I64 l) : PC Try.prog 10 [.int .i64 l, bools b m] (.bool true) := by
  refine PC.start 47 Try.call10 Try.func10 rfl Try.ntmps10 Try.results10 (by simp only [go_sem]; exact rfl) fun z hz => ?_
  refine AW.regR rfl (by simp only [go_sem, bools, List.length_map] <;> exact rfl) rfl ?_
  refine AW.seq ?_
  refine AW.regR rfl (by simp only [go_sem, bools, List.length_map] <;> exact rfl) rfl ?_
  refine AW.cond (by simp only [go_sem, bools, List.length_map] <;> exact rfl) (fun hc1 => ?_) (fun hc1 => ?_)
  · try simp only [decide_eq_true_eq, decide_eq_false_iff_not, Bool.or_eq_true, Bool.or_eq_false_iff, Bool.and_eq_true, Bool.and_eq_false_imp, Bool.not_eq_true', Bool.not_eq_false'] at hc1
    refine AW.regS rfl ?_
    refine ARN.pcall (fun hp => c33) rfl (by simp only [go_sem, bools, List.length_map] <;> exact rfl) (by simp only [go_sem]) (by simp only [go_sem, bools, List.length_map] <;> exact rfl) ?_
    refine ARN.run1 (by simp only [go_sem, bools, List.length_map] <;> exact rfl) ?_
    refine ARN.fin (by simp only [go_sem] <;> exact rfl) ?_
    refine retK.fin rfl (by simp only [go_sem, bools, List.length_map] <;> exact rfl) (by simp only [go_sem, bools, List.length_map] <;> exact rfl) (.of ?_)
    rfl
  · try simp only [decide_eq_true_eq, decide_eq_false_iff_not, Bool.or_eq_true, Bool.or_eq_false_iff, Bool.and_eq_true, Bool.and_eq_false_imp, Bool.not_eq_true', Bool.not_eq_false'] at hc1
    refine AW.skip ?_
    show AW _ _ _ _ _
    refine AW.regS rfl ?_
    refine ARN.run1 (by simp only [go_sem, bools, List.length_map] <;> exact rfl) ?_
    refine ARN.pcall (fun hp => c34 _) rfl (by simp only [go_sem, bools, List.length_map] <;> exact rfl) (by simp only [go_sem]) (by simp only [go_sem, bools, List.length_map] <;> exact rfl) ?_
    refine ARN.run1 (by simp only [go_sem, bools, List.length_map] <;> exact rfl) ?_
    refine ARN.pcall (fun hp => c35 _ h) rfl (by simp only [go_sem, bools, List.length_map] <;> exact rfl) (by simp only [go_sem]) (by simp only [go_sem, bools, List.length_map] <;> exact rfl) ?_
    refine ARN.run1 (by simp only [go_sem, bools, List.length_map] <;> exact rfl) ?_
    refine ARN.pcall (fun hp => c36 _) rfl (by simp only [go_sem, bools, List.length_map] <;> exact rfl) (by simp only [go_sem]) (by simp only [go_sem, bools, List.length_map] <;> exact rfl) ?_
    refine ARN.run1 (by simp only [go_sem, bools, List.length_map] <;> exact rfl) ?_
    refine ARN.pcall (fun hp => c37 _) rfl (by simp only [go_sem, bools, List.length_map] <;> exact rfl) (by simp only [go_sem]) (by simp only [go_sem, bools, List.length_map] <;> exact rfl) ?_
    refine ARN.run1 (by simp only [go_sem, bools, List.length_map] <;> exact rfl) ?_
    refine ARN.pcall (fun hp => c38 _ h) rfl (by simp only [go_sem, bools, List.length_map] <;> exact rfl) (by simp only [go_sem]) (by simp only [go_sem, bools, List.length_map] <;> exact rfl) ?_
    refine ARN.run1 (by simp only [go_sem, bools, List.length_map] <;> exact rfl) ?_
    refine ARN.pcall (fun hp => c39 _ h) rfl (by simp only [go_sem, bools, List.length_map] <;> exact rfl) (by simp only [go_sem]) (by simp only [go_sem, bools, List.length_map] <;> exact rfl) ?_
    refine ARN.run1 (by simp only [go_sem, bools, List.length_map] <;> exact rfl) ?_
    refine ARN.pcall (fun hp => c40 _ h) rfl (by simp only [go_sem, bools, List.length_map] <;> exact rfl) (by simp only [go_sem]) (by simp only [go_sem, bools, List.length_map] <;> exact rfl) ?_
    refine ARN.run1 (by simp only [go_sem, bools, List.length_map] <;> exact rfl) ?_
    refine ARN.pcall (fun hp => c41 _ h) rfl (by simp only [go_sem, bools, List.length_map] <;> exact rfl) (by simp only [go_sem]) (by simp only [go_sem, bools, List.length_map] <;> exact rfl) ?_
    refine ARN.run1 (by simp only [go_sem, bools, List.length_map] <;> exact rfl) ?_
    refine ARN.pcall (fun hp => c42 l b m h) rfl (by simp only [go_sem, bools, List.length_map] <;> exact rfl) (by simp only [go_sem]) (by simp only [go_sem, bools, List.length_map] <;> exact rfl) ?_
    refine ARN.run1 (by simp only [go_sem, bools, List.length_map] <;> exact rfl) ?_
    refine ARN.pcall (fun hp => c43 l b m h) rfl (by simp only [go_sem, bools, List.length_map] <;> exact rfl) (by simp only [go_sem]) (by simp only [go_sem, bools, List.length_map] <;> exact rfl) ?_
    refine ARN.run1 (by simp only [go_sem, bools, List.length_map] <;> exact rfl) ?_
    refine ARN.pcall (fun hp => c33) rfl (by simp only [go_sem, bools, List.length_map] <;> exact rfl) (by simp only [go_sem]) (by simp only [go_sem, bools, List.length_map] <;> exact rfl) ?_
    refine ARN.run1 (by simp only [go_sem, bools, List.length_map] <;> exact rfl) ?_
    refine ARN.fin (by simp only [go_sem] <;> exact rfl) ?_
    refine retK.fin rfl (by simp only [go_sem, bools, List.length_map] <;> exact rfl) (by simp only [go_sem, bools, List.length_map] <;> exact rfl) (.of ?_)
    simp
theorem mk_facts {v : Int} {neg : Bool} (h : mkE v = 0) : I64 (mk v neg) ∧ 0 ≤ mk v neg ∧ ofV (mk v neg) = v ∧ ofN (mk v neg) = neg ∧ I64 (num (mk v neg)) ∧ mk (ofA (num (mk v neg))) (decide (num (mk v neg) < 0)) = mk v neg ∧ mkE (ofA (num (mk v neg))) = 0 := by
  have h0 : ¬ (v < 0 ∨ 1048576 ≤ v) := fun hh => by unfold mkE at h; rw [if_pos hh] at h; omega
  have e : mk v neg = if neg = true then 2 * v + 1 else 2 * v := by unfold mk; rw [if_neg h0]
  have hl : 0 ≤ mk v neg ∧ mk v neg ≤ 2097151 := by rw [e]; split <;> omega
  have hV : ofV (mk v neg) = v := by unfold ofV; rw [if_neg (by omega), e]; split <;> omega
  have hN : ofN (mk v neg) = neg := by unfold ofN; rw [e]; cases neg <;> simp <;> omega
  have hnum : num (mk v neg) = if neg = true then -(v + 1) else v + 1 := by unfold num; rw [hV, hN]
  have hA : ofA (num (mk v neg)) = v := by unfold ofA; rw [hnum]; cases neg <;> simp <;> omega
  refine ⟨⟨by omega, by omega⟩, hl.1, hV, hN, ?_, ?_, by rw [hA]; exact h⟩
  · rw [hnum]; unfold I64; split <;> omega
  · rw [hA]; congr 1; rw [hnum]; cases neg <;> simp <;> omega
theorem not_facts {l : Int} (h : I64 l) (h0 : 0 ≤ l) : I64 (notL l) ∧ 0 ≤ notL l ∧ notL (notL l) = l ∧ notL l ≠ l ∧ ofV (notL l) = ofV l ∧ ofN (notL l) = !ofN l := by
  unfold I64 at h
  have e : notL l = if l % 2 = 0 then l + 1 else l - 1 := by unfold notL; rw [if_neg (by omega)]
  have hn : 0 ≤ notL l ∧ notL l ≤ 9223372036854775807 := by rw [e]; split <;> omega
  refine ⟨⟨by omega, hn.2⟩, hn.1, ?_, by rw [e]; split <;> omega, ?_, ?_⟩
  · have e2 : notL (notL l) = if notL l % 2 = 0 then notL l + 1 else notL l - 1 := by unfold notL; rw [if_neg (by have := hn.1; unfold notL at this; exact Int.not_lt.2 this)]
    rw [e2, e]; split <;> split <;> omega
  · unfold ofV; rw [if_neg (by omega), if_neg (by omega), e]; split <;> omega
  · unfold ofN; rw [e]; by_cases hp : l % 2 = 0
    · rw [if_pos hp]; simp [show ¬ l % 2 = 1 by omega]; omega
    · rw [if_neg hp]; simp [show l % 2 = 1 by omega, h0]; omega
theorem hold_not {l : Int} {m : List Bool} (h : I64 l) (h0 : 0 ≤ l) : hold (notL l) m = !hold l m := by
  obtain ⟨_, n0, _, _, nV, nN⟩ := not_facts h h0
  unfold hold
  rw [if_neg (by omega), if_neg (by omega), nV, nN]
  cases (m.getD (ofV l).toNat false) <;> cases ofN l <;> rfl
theorem c11 (v : Int) (neg : Bool) (b : Bool) (m : List Bool) (hv : I64 v) : PC Try.prog 11 [.int .i64 v, .bool neg, bools b m] (.bool true) := by
  refine PC.start 76 Try.call11 Try.func11 rfl Try.ntmps11 Try.results11 (by simp only [go_sem]; exact rfl) fun z hz => ?_
  refine AW.regR rfl (by simp only [go_sem, bools, List.length_map] <;> exact rfl) rfl ?_
  refine AW.regS rfl ?_
  refine ARN.run1 (by simp only [go_sem, bools, List.length_map] <;> exact rfl) ?_
  refine ARN.pcall (fun hp => c29 _ _) rfl (by simp only [go_sem, bools, List.length_map] <;> exact rfl) (by simp only [go_sem]) (by simp only [go_sem, bools, List.length_map] <;> exact rfl) ?_
  refine ARN.run1 (by simp only [go_sem, bools, List.length_map] <;> exact rfl) ?_
  refine ARN.fin (by simp only [go_sem] <;> exact rfl) ?_
  refine AW.seq ?_
  refine AW.regR rfl (by simp only [go_sem, bools, List.length_map] <;> exact rfl) rfl ?_
  refine AW.cond (by simp only [go_sem, bools, List.length_map] <;> exact rfl) (fun hc1 => ?_) (fun hc1 => ?_)
  · try simp only [decide_eq_true_eq, decide_eq_false_iff_not, Bool.or_eq_true, Bool.or_eq_false_iff, Bool.and_eq_true, Bool.and_eq_false_imp, Bool.not_eq_true', Bool.not_eq_false'] at hc1
    refine AW.regS rfl ?_
    refine ARN.pcall (fun hp => c33) rfl (by simp only [go_sem, bools, List.length_map] <;> exact rfl) (by simp only [go_sem]) (by simp only [go_sem, bools, List.length_map] <;> exact rfl) ?_
    refine ARN.run1 (by simp only [go_sem, bools, List.length_map] <;> exact rfl) ?_
    refine ARN.fin (by simp only [go_sem] <;> exact rfl) ?_
    refine retK.fin rfl (by simp only [go_sem, bools, List.length_map] <;> exact rfl) (by simp only [go_sem, bools, List.length_map] <;> exact rfl) (.of ?_)
    rfl
  · try simp only [decide_eq_true_eq, decide_eq_false_iff_not, Bool.or_eq_true, Bool.or_eq_false_iff, Bool.and_eq_true, Bool.and_eq_false_imp, Bool.not_eq_true', Bool.not_eq_false'] at hc1
    refine AW.skip ?_
    show AW _ _ _ _ _
    have he : mkE v = 0 := by simpa using hc1.2
    obtain ⟨f1, f2, f3, f4, f5, f6, f7⟩ := mk_facts (neg := neg) he
    obtain ⟨g1, g2, g3, g4, g5, g6⟩ := not_facts f1 f2
    refine AW.regS rfl ?_
    refine ARN.run1 (by simp only [go_sem, bools, List.length_map] <;> exact rfl) ?_
    refine ARN.pcall (fun hp => c40 _ f1) rfl (by simp only [go_sem, bools, List.length_map] <;> exact rfl) (by simp only [go_sem]) (by simp only [go_sem, bools, List.length_map] <;> exact rfl) ?_
    refine ARN.pcall (fun hp => c31 _ f5) rfl (by simp only [go_sem, bools, List.length_map] <;> exact rfl) (by simp only [go_sem]) (by simp only [go_sem, bools, List.length_map] <;> exact rfl) ?_
    refine ARN.run1 (by simp only [go_sem, bools, List.length_map] <;> exact rfl) ?_
    refine ARN.fin (by simp only [go_sem] <;> exact rfl) ?_
    refine AW.regS rfl ?_
    refine ARN.run1 (by simp only [go_sem, bools, List.length_map] <;> exact rfl) ?_
    refine ARN.pcall (fun hp => c34 _) rfl (by simp only [go_sem, bools, List.length_map] <;> exact rfl) (by simp only [go_sem]) (by simp only [go_sem, bools, List.length_map] <;> exact rfl) ?_
    refine ARN.run1 (by simp only [go_sem, bools, List.length_map] <;> exact rfl) ?_
    refine ARN.pcall (fun hp => c36 _) rfl (by simp only [go_sem, bools, List.length_map] <;> exact rfl) (by simp only [go_sem]) (by simp only [go_sem, bools, List.length_map] <;> exact rfl) ?_
    refine ARN.run1 (by simp only [go_sem, bools, List.length_map] <;> exact rfl) ?_
    refine ARN.pcall (fun hp => c38 _ f1) rfl (by simp only [go_sem, bools, List.length_map] <;> exact rfl) (by simp only [go_sem]) (by simp only [go_sem, bools, List.length_map] <;> exact rfl) ?_
    refine ARN.pcall (fun hp => c38 _ g1) rfl (by simp only [go_sem, bools, List.length_map] <;> exact rfl) (by simp only [go_sem]) (by simp only [go_sem, bools, List.length_map] <;> exact rfl) ?_
    refine ARN.run1 (by simp only [go_sem, bools, List.length_map] <;> exact rfl) ?_
    refine ARN.pcall (fun hp => c38 _ f1) rfl (by simp only [go_sem, bools, List.length_map] <;> exact rfl) (by simp only [go_sem]) (by simp only [go_sem, bools, List.length_map] <;> exact rfl) ?_
    refine ARN.run1 (by simp only [go_sem, bools, List.length_map] <;> exact rfl) ?_
    refine ARN.pcall (fun hp => c42 _ b m f1) rfl (by simp only [go_sem, bools, List.length_map] <;> exact rfl) (by simp only [go_sem]) (by simp only [go_sem, bools, List.length_map] <;> exact rfl) ?_
    refine ARN.run1 (by simp only [go_sem, bools, List.length_map] <;> exact rfl) ?_
    refine ARN.pcall (fun hp => c38 _ f1) rfl (by simp only [go_sem, bools, List.length_map] <;> exact rfl) (by simp only [go_sem]) (by simp only [go_sem, bools, List.length_map] <;> exact rfl) ?_
    refine ARN.run1 (by simp only [go_sem, bools, List.length_map] <;> exact rfl) ?_
    refine ARN.pcall (fun hp => c42 _ b m g1) rfl (by simp only [go_sem, bools, List.length_map] <;> exact rfl) (by simp only [go_sem]) (by simp only [go_sem, bools, List.length_map] <;> exact rfl) ?_
    refine ARN.run1 (by simp only [go_sem, bools, List.length_map] <;> exact rfl) ?_
    refine ARN.pcall (fun hp => c33) rfl (by simp only [go_sem, bools, List.length_map] <;> exact rfl) (by simp only [go_sem]) (by simp only [go_sem, bools, List.length_map] <;> exact rfl) ?_
    refine ARN.run1 (by simp only [go_sem, bools, List.length_map] <;> exact rfl) ?_
    refine ARN.fin (by simp only [go_sem] <;> exact rfl) ?_
    refine retK.fin rfl (by simp only [go_sem, bools, List.length_map] <;> exact rfl) (by simp only [go_sem, bools, List.length_map] <;> exact rfl) (.of ?_)
    simp [f3, f4, f6, f7, g3, g4, hold_not f1 f2]
end Go.Ab.Try
