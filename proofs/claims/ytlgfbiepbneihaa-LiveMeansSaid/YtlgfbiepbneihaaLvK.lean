/- Registers that play a part: the laws. -/
import Derived.Test.YtlgfbiepbneihaaLvJ
import Derived.Test.YtlgfbiepbneihaaLZ
import Derived.Test.YtlgfbiepbneihaaVmG
namespace Go.Ab.Try
open Go.Proofs Go.Ab
set_option linter.unusedVariables false
set_option linter.unusedSimpArgs false
set_option linter.unnecessarySimpa false
set_option maxRecDepth 100000
@[go_sem] theorem wr_r (u : St) (g : R8 Int) : (u.wr g).r = g := rfl
@[go_sem] theorem wr_C (u : St) (g : R8 Int) : (u.wr g).C = u.C := rfl
@[go_sem] theorem wr_pc (u : St) (g : R8 Int) : (u.wr g).pc = u.pc := rfl
@[go_sem] theorem wr_steps (u : St) (g : R8 Int) : (u.wr g).steps = u.steps := rfl
@[go_sem] theorem wr_calls (u : St) (g : R8 Int) : (u.wr g).calls = u.calls := rfl
@[go_sem] theorem wr_en (u : St) (g : R8 Int) : (u.wr g).en = u.en := rfl
@[go_sem] theorem wr_code (u : St) (g : R8 Int) : (u.wr g).code = u.code := rfl
@[go_sem] theorem wr_val (u : St) (g : R8 Int) : (u.wr g).val = u.val := rfl
@[go_sem] theorem wr_D (u : St) (g : R8 Int) : (u.wr g).D = u.D := rfl
@[go_sem] theorem wr_l (u : St) (g : R8 Int) : (u.wr g).l = u.l := rfl
@[go_sem] theorem wr_e (u : St) (g : R8 Int) : (u.wr g).e = u.e := rfl
theorem w_exL : OkC exL := by intro i h; simp [exL] at h; rcases h with rfl | rfl <;> (unfold W64; decide)
theorem c35x : PC Try.prog 35 [.lst true 5 (exL.map inR)] (.lst false 8 (lvE.map bR)) := by
  have := (c35 exL w_exL (by decide)).arg (ps := [.lst true 5 (exL.map inR)]) ⟨Sub.full _ _ _, trivial⟩
  rwa [live_ex] at this
theorem c29  : PC Try.prog 29 [] (.bool true) := by
  refine PC.start 46 Try.call29 Try.func29 rfl Try.ntmps29 Try.results29 (by simp only [go_sem]; exact rfl) fun z hz => ?_
  refine AW.regR rfl (by simp (maxSteps := 1000000) only [go_sem] <;> exact rfl) (by first | (simp (disch := omega) only [go_sem, w64, wU] <;> exact rfl) | exact rfl) ?_
  refine AW.regS rfl ?_
  refine ARN.run1 (by simp (maxSteps := 1000000) only [go_sem] <;> exact rfl) ?_
  refine ARN.pcall (fun hp => c35x) rfl (by simp (maxSteps := 1000000) only [go_sem] <;> exact rfl) (by simp only [go_sem]) (by simp (maxSteps := 1000000) only [go_sem] <;> exact rfl) ?_
  refine ARN.run1 (by simp (maxSteps := 1000000) only [go_sem] <;> exact rfl) ?_
  refine ARN.fin (by first | (simp (disch := omega) only [go_sem, w64, wU] <;> exact rfl) | exact rfl) ?_
  refine AW.seq ?_
  refine AW.regR rfl (by simp (maxSteps := 1000000) only [go_sem] <;> exact rfl) (by first | (simp (disch := omega) only [go_sem, w64, wU] <;> exact rfl) | exact rfl) ?_
  refine AW.condF (by simp (maxSteps := 1000000) only [go_sem] <;> exact rfl) ?_
  refine AW.skip ?_
  show AW _ _ _ _ _
  refine AW.regS rfl ?_
  refine ARN.run1 (by simp (maxSteps := 1000000) only [go_sem] <;> exact rfl) ?_
  refine ARN.pcall (fun hp => c30 11 1 2 0 0) rfl (by simp (maxSteps := 1000000) only [go_sem] <;> exact rfl) (by simp only [go_sem]) (by simp (maxSteps := 1000000) only [go_sem] <;> exact rfl) ?_
  refine ARN.run1 (by simp (maxSteps := 1000000) only [go_sem] <;> exact rfl) ?_
  refine ARN.pcall (fun hp => c32 9 7 0 0 0) rfl (by simp (maxSteps := 1000000) only [go_sem] <;> exact rfl) (by simp only [go_sem]) (by simp (maxSteps := 1000000) only [go_sem] <;> exact rfl) ?_
  refine ARN.run1 (by simp (maxSteps := 1000000) only [go_sem] <;> exact rfl) ?_
  refine ARN.pcall (fun hp => c32 9 8 0 0 0) rfl (by simp (maxSteps := 1000000) only [go_sem] <;> exact rfl) (by simp only [go_sem]) (by simp (maxSteps := 1000000) only [go_sem] <;> exact rfl) ?_
  refine ARN.run1 (by simp (maxSteps := 1000000) only [go_sem] <;> exact rfl) ?_
  refine ARN.fin (by first | (simp (disch := omega) only [go_sem, w64, wU] <;> exact rfl) | exact rfl) ?_
  refine retK.fin rfl (by simp (maxSteps := 1000000) only [go_sem] <;> exact rfl) (by simp (maxSteps := 1000000) only [go_sem] <;> exact rfl) (.of ?_)
  exact congrArg PV.bool (by decide +kernel)
theorem c6 (code : List Ins) (hc : OkC code) : PC Try.prog 6 [.lst false 5 (code.map inR)] (.bool true) := by
  refine PC.start 46 Try.call6 Try.func6 rfl Try.ntmps6 Try.results6 (by simp only [go_sem]; exact rfl) fun z hz => ?_
  refine AW.regR rfl (by simp (maxSteps := 1000000) only [go_sem, beq_self_eq_true, Bool.and_self, Bool.not_true, Bool.or_self] <;> exact rfl) (by first | (simp (disch := omega) only [go_sem, w64, wU, beq_self_eq_true, Bool.and_self, Bool.not_true, Bool.or_self] <;> exact rfl) | exact rfl) ?_
  refine AW.seq ?_
  refine AW.regR rfl (by simp (maxSteps := 1000000) only [go_sem, beq_self_eq_true, Bool.and_self, Bool.not_true, Bool.or_self] <;> exact rfl) (by first | (simp (disch := omega) only [go_sem, w64, wU, beq_self_eq_true, Bool.and_self, Bool.not_true, Bool.or_self] <;> exact rfl) | exact rfl) ?_
  refine AW.cond (by simp (maxSteps := 1000000) only [go_sem, beq_self_eq_true, Bool.and_self, Bool.not_true, Bool.or_self] <;> exact rfl) (fun hc1 => ?_) (fun hc1 => ?_)
  · try simp only [decide_eq_true_eq, decide_eq_false_iff_not, Bool.or_eq_true, Bool.or_eq_false_iff, Bool.and_eq_true, Bool.and_eq_false_imp, Bool.not_eq_true', Bool.not_eq_false'] at hc1
    refine AW.regS rfl ?_
    refine ARN.pcall (fun hp => c29) rfl (by simp (maxSteps := 1000000) only [go_sem, beq_self_eq_true, Bool.and_self, Bool.not_true, Bool.or_self] <;> exact rfl) (by simp only [go_sem]) (by simp (maxSteps := 1000000) only [go_sem, beq_self_eq_true, Bool.and_self, Bool.not_true, Bool.or_self] <;> exact rfl) ?_
    refine ARN.run1 (by simp (maxSteps := 1000000) only [go_sem, beq_self_eq_true, Bool.and_self, Bool.not_true, Bool.or_self] <;> exact rfl) ?_
    refine ARN.fin (by first | (simp (disch := omega) only [go_sem, w64, wU, beq_self_eq_true, Bool.and_self, Bool.not_true, Bool.or_self] <;> exact rfl) | exact rfl) ?_
    refine retK.fin rfl (by simp (maxSteps := 1000000) only [go_sem, beq_self_eq_true, Bool.and_self, Bool.not_true, Bool.or_self] <;> exact rfl) (by simp (maxSteps := 1000000) only [go_sem, beq_self_eq_true, Bool.and_self, Bool.not_true, Bool.or_self] <;> exact rfl) (.of ?_)
    rfl
  · try simp only [decide_eq_true_eq, decide_eq_false_iff_not, Bool.or_eq_true, Bool.or_eq_false_iff, Bool.and_eq_true, Bool.and_eq_false_imp, Bool.not_eq_true', Bool.not_eq_false'] at hc1
    refine AW.skip ?_
    show AW _ _ _ _ _
    refine AW.seq ?_
    refine AW.regR rfl (by simp (maxSteps := 1000000) only [go_sem, beq_self_eq_true, Bool.and_self, Bool.not_true, Bool.or_self] <;> exact rfl) (by first | (simp (disch := omega) only [go_sem, w64, wU, beq_self_eq_true, Bool.and_self, Bool.not_true, Bool.or_self] <;> exact rfl) | exact rfl) ?_
    refine AW.block ?_
    refine AW.loopVh (α := (Int)) (fun (i : (Int)) => [(3, .pv (.int .i64 i))]) (fun (i : (Int)) => (0 ≤ i) ∧ (i ≤ (code.length : Int))) (fun (i : (Int)) => ((code.length : Int) - i).toNat) 0 ?_ ?_ ?_
    · exact ⟨by omega, by omega⟩
    · refine Wk.sub ?_
      simp (maxSteps := 1000000) (disch := omega) only [go_sem, w64, wU, beq_self_eq_true, Bool.and_self, Bool.not_true, Bool.or_self]
    · rintro i hF _ ht
      simp only [updT, go_sem] at ht
      subst ht
      obtain ⟨h1, h2⟩ := hF
      refine AW.seq ?_
      refine AW.regR rfl (by simp (maxSteps := 1000000) only [go_sem, beq_self_eq_true, Bool.and_self, Bool.not_true, Bool.or_self] <;> exact rfl) (by first | (simp (disch := omega) only [go_sem, w64, wU, beq_self_eq_true, Bool.and_self, Bool.not_true, Bool.or_self] <;> exact rfl) | exact rfl) ?_
      refine AW.cond (by simp (maxSteps := 1000000) only [go_sem, beq_self_eq_true, Bool.and_self, Bool.not_true, Bool.or_self] <;> exact rfl) (fun hc2 => ?_) (fun hc2 => ?_)
      · try simp only [decide_eq_true_eq, decide_eq_false_iff_not, Bool.or_eq_true, Bool.or_eq_false_iff, Bool.and_eq_true, Bool.and_eq_false_imp, Bool.not_eq_true', Bool.not_eq_false'] at hc2
        have g1 : 0 ≤ i := h1
        have g2 : i < (code.length : Int) := hc2
        have hr : (code.map inR)[i.toNat]? = some [.int .i64 (code.getD i.toNat i0).1, .int .i64 (code.getD i.toNat i0).2.1, .int .i64 (code.getD i.toNat i0).2.2.1, .int .i64 (code.getD i.toNat i0).2.2.2.1, .int .u64 (code.getD i.toNat i0).2.2.2.2] := in_at ⟨h1, hc2⟩
        refine AW.skip ?_
        show AW _ _ _ _ _
        refine AW.seq ?_
        refine AW.block ?_
        refine AW.regDS follows (by kernel_rfl) ?_
        refine ARE.run1 (by simp (maxSteps := 1000000) only [go_sem, beq_self_eq_true, Bool.and_self, Bool.not_true, Bool.or_self, g1, g2, hr] <;> exact rfl) ?_
        refine ARE.pcall (fun hp => c30 (code.getD i.toNat i0).1 (code.getD i.toNat i0).2.1 (code.getD i.toNat i0).2.2.1 (code.getD i.toNat i0).2.2.2.1 (code.getD i.toNat i0).2.2.2.2) rfl (by simp (maxSteps := 1000000) only [go_sem, beq_self_eq_true, Bool.and_self, Bool.not_true, Bool.or_self, g1, g2, hr] <;> exact rfl) (by simp only [go_sem]) (by simp (maxSteps := 1000000) only [go_sem, beq_self_eq_true, Bool.and_self, Bool.not_true, Bool.or_self, g1, g2, hr] <;> exact rfl) ?_
        refine ARE.run1 (by simp (maxSteps := 1000000) only [go_sem, beq_self_eq_true, Bool.and_self, Bool.not_true, Bool.or_self, g1, g2, hr] <;> exact rfl) ?_
        refine ARE.pcall (fun hp => c31 (code.getD i.toNat i0).1 (code.getD i.toNat i0).2.1 (code.getD i.toNat i0).2.2.1 (code.getD i.toNat i0).2.2.2.1 (code.getD i.toNat i0).2.2.2.2) rfl (by simp (maxSteps := 1000000) only [go_sem, beq_self_eq_true, Bool.and_self, Bool.not_true, Bool.or_self, g1, g2, hr] <;> exact rfl) (by simp only [go_sem]) (by simp (maxSteps := 1000000) only [go_sem, beq_self_eq_true, Bool.and_self, Bool.not_true, Bool.or_self, g1, g2, hr] <;> exact rfl) ?_
        refine ARE.run1 (by simp (maxSteps := 1000000) only [go_sem, beq_self_eq_true, Bool.and_self, Bool.not_true, Bool.or_self, g1, g2, hr] <;> exact rfl) ?_
        refine ARE.pcall (fun hp => c32 (code.getD i.toNat i0).1 (code.getD i.toNat i0).2.1 (code.getD i.toNat i0).2.2.1 (code.getD i.toNat i0).2.2.2.1 (code.getD i.toNat i0).2.2.2.2) rfl (by simp (maxSteps := 1000000) only [go_sem, beq_self_eq_true, Bool.and_self, Bool.not_true, Bool.or_self, g1, g2, hr] <;> exact rfl) (by simp only [go_sem]) (by simp (maxSteps := 1000000) only [go_sem, beq_self_eq_true, Bool.and_self, Bool.not_true, Bool.or_self, g1, g2, hr] <;> exact rfl) ?_
        refine ARE.run1 (by simp (maxSteps := 1000000) only [go_sem, beq_self_eq_true, Bool.and_self, Bool.not_true, Bool.or_self, g1, g2, hr] <;> exact rfl) ?_
        refine ARE.pcall (fun hp => c33 (code.getD i.toNat i0).1 (code.getD i.toNat i0).2.1 (code.getD i.toNat i0).2.2.1 (code.getD i.toNat i0).2.2.2.1 (code.getD i.toNat i0).2.2.2.2) rfl (by simp (maxSteps := 1000000) only [go_sem, beq_self_eq_true, Bool.and_self, Bool.not_true, Bool.or_self, g1, g2, hr] <;> exact rfl) (by simp only [go_sem]) (by simp (maxSteps := 1000000) only [go_sem, beq_self_eq_true, Bool.and_self, Bool.not_true, Bool.or_self, g1, g2, hr] <;> exact rfl) ?_
        refine ARE.run1 (by simp (maxSteps := 1000000) only [go_sem, beq_self_eq_true, Bool.and_self, Bool.not_true, Bool.or_self, g1, g2, hr] <;> exact rfl) ?_
        refine ARE.fin [0, 0, 3, 7, 15, 0, 0, 96, 224, 511, 1023, 2047, 4095, 4095, 16383, 32767, 65535, 4095, 4095, 397311, 921599, 2097151, 4194303, 8388607] _ (by kernel_rfl) (by simp (maxSteps := 1000000) only [go_sem, beq_self_eq_true, Bool.and_self, Bool.not_true, Bool.or_self, g1, g2, hr] <;> exact rfl) (by kernel_rfl) (by first | (simp (disch := omega) only [go_sem, w64, wU, beq_self_eq_true, Bool.and_self, Bool.not_true, Bool.or_self, g1, g2, hr] <;> exact rfl) | exact rfl) ?_
        refine AW.condF (by simp (maxSteps := 1000000) only [go_sem, beq_self_eq_true, Bool.and_self, Bool.not_true, Bool.or_self, g1, g2, hr] <;> exact rfl) ?_
        refine AW.skip ?_
        show AW _ _ _ _ _
        refine AW.regR1 rfl (by simp (maxSteps := 1000000) only [go_sem, beq_self_eq_true, Bool.and_self, Bool.not_true, Bool.or_self, g1, g2, hr] <;> exact rfl) (by first | (simp (disch := omega) only [go_sem, w64, wU, beq_self_eq_true, Bool.and_self, Bool.not_true, Bool.or_self, g1, g2, hr] <;> exact rfl) | exact rfl) ?_
        refine ⟨(i + 1), ?_, ?_, ?_⟩
        · (try dsimp only); omega
        · exact ⟨by omega, by omega⟩
        · refine Wk.sub ?_
          simp (maxSteps := 1000000) (disch := omega) only [go_sem, w64, wU, beq_self_eq_true, Bool.and_self, Bool.not_true, Bool.or_self, g1, g2, hr]
      · try simp only [decide_eq_true_eq, decide_eq_false_iff_not, Bool.or_eq_true, Bool.or_eq_false_iff, Bool.and_eq_true, Bool.and_eq_false_imp, Bool.not_eq_true', Bool.not_eq_false'] at hc2
        have hN : ((liveS code).length : Int) ≤ 9223372036854775807 := by rw [live_len2]; omega
        refine AW.exit ?_
        show AW _ _ _ _ _
        refine AW.regS rfl ?_
        refine ARN.run1 (by simp (maxSteps := 1000000) only [go_sem, beq_self_eq_true, Bool.and_self, Bool.not_true, Bool.or_self, hN] <;> exact rfl) ?_
        refine ARN.pcall (fun hp => c35 code hc (by omega)) rfl (by simp (maxSteps := 1000000) only [go_sem, beq_self_eq_true, Bool.and_self, Bool.not_true, Bool.or_self, hN] <;> exact rfl) (by simp only [go_sem]) (by simp (maxSteps := 1000000) only [go_sem, beq_self_eq_true, Bool.and_self, Bool.not_true, Bool.or_self, hN] <;> exact rfl) ?_
        refine ARN.run1 (by simp (maxSteps := 1000000) only [go_sem, beq_self_eq_true, Bool.and_self, Bool.not_true, Bool.or_self, hN] <;> exact rfl) ?_
        refine ARN.pcall (fun hp => c36 code hc (by omega)) rfl (by simp (maxSteps := 1000000) only [go_sem, beq_self_eq_true, Bool.and_self, Bool.not_true, Bool.or_self, hN] <;> exact rfl) (by simp only [go_sem]) (by simp (maxSteps := 1000000) only [go_sem, beq_self_eq_true, Bool.and_self, Bool.not_true, Bool.or_self, hN] <;> exact rfl) ?_
        refine ARN.pcall (fun hp => c34 (liveS code) (liveS code) hN hN) rfl (by simp (maxSteps := 1000000) only [go_sem, beq_self_eq_true, Bool.and_self, Bool.not_true, Bool.or_self, hN] <;> exact rfl) (by simp only [go_sem]) (by simp (maxSteps := 1000000) only [go_sem, beq_self_eq_true, Bool.and_self, Bool.not_true, Bool.or_self, hN] <;> exact rfl) ?_
        refine ARN.run1 (by simp (maxSteps := 1000000) only [go_sem, beq_self_eq_true, Bool.and_self, Bool.not_true, Bool.or_self, hN] <;> exact rfl) ?_
        refine ARN.pcall (fun hp => c29) rfl (by simp (maxSteps := 1000000) only [go_sem, beq_self_eq_true, Bool.and_self, Bool.not_true, Bool.or_self, hN] <;> exact rfl) (by simp only [go_sem]) (by simp (maxSteps := 1000000) only [go_sem, beq_self_eq_true, Bool.and_self, Bool.not_true, Bool.or_self, hN] <;> exact rfl) ?_
        refine ARN.run1 (by simp (maxSteps := 1000000) only [go_sem, beq_self_eq_true, Bool.and_self, Bool.not_true, Bool.or_self, hN] <;> exact rfl) ?_
        refine ARN.fin (by first | (simp (disch := omega) only [go_sem, w64, wU, beq_self_eq_true, Bool.and_self, Bool.not_true, Bool.or_self, hN] <;> exact rfl) | exact rfl) ?_
        refine retK.fin rfl (by simp (maxSteps := 1000000) only [go_sem, beq_self_eq_true, Bool.and_self, Bool.not_true, Bool.or_self, hN] <;> exact rfl) (by simp (maxSteps := 1000000) only [go_sem, beq_self_eq_true, Bool.and_self, Bool.not_true, Bool.or_self, hN] <;> exact rfl) (.of ?_)
        simp
theorem c7 (code : List Ins) (inp D : List Int) (l : List Pn) (e n fuel most k r x : Int) (hc : OkC code) (hii : OkI inp) (hD : ∀ x ∈ D, W64 x) (hl : ∀ p ∈ l, W64 p.2.1) (hk : 0 ≤ k ∧ k < 256) (hr : 0 ≤ r ∧ r < 256) (hx : W64 x) : PC Try.prog 7 [playV code inp D l e n fuel most, chgV k r x] (.bool true) := by
  refine PC.start 147 Try.call7 Try.func7 rfl Try.ntmps7 Try.results7 (by simp only [go_sem]; exact rfl) fun z hz => ?_
  refine AW.regR rfl (by simp (maxSteps := 1000000) only [go_sem] <;> exact rfl) (by first | (simp (disch := omega) only [go_sem, w64, wU] <;> exact rfl) | exact rfl) ?_
  refine AW.seq ?_
  refine AW.regS rfl ?_
  refine ARN.run1 (by simp (maxSteps := 1000000) only [go_sem] <;> exact rfl) ?_
  refine ARN.pcall (fun hp => c25 D l e) rfl (by simp (maxSteps := 1000000) only [go_sem] <;> exact rfl) (by simp only [go_sem]) (by simp (maxSteps := 1000000) only [go_sem] <;> exact rfl) ?_
  refine ARN.run1 (by simp (maxSteps := 1000000) only [go_sem] <;> exact rfl) ?_
  refine ARN.fin (by first | (simp (disch := omega) only [go_sem, w64, wU] <;> exact rfl) | exact rfl) ?_
  refine AW.cond (by simp (maxSteps := 1000000) only [go_sem] <;> exact rfl) (fun hc1 => ?_) (fun hc1 => ?_)
  · try simp only [decide_eq_true_eq, decide_eq_false_iff_not, Bool.or_eq_true, Bool.or_eq_false_iff, Bool.and_eq_true, Bool.and_eq_false_imp, Bool.not_eq_true', Bool.not_eq_false'] at hc1
    refine AW.regS rfl ?_
    refine ARN.pcall (fun hp => c29) rfl (by simp (maxSteps := 1000000) only [go_sem] <;> exact rfl) (by simp only [go_sem]) (by simp (maxSteps := 1000000) only [go_sem] <;> exact rfl) ?_
    refine ARN.run1 (by simp (maxSteps := 1000000) only [go_sem] <;> exact rfl) ?_
    refine ARN.fin (by first | (simp (disch := omega) only [go_sem, w64, wU] <;> exact rfl) | exact rfl) ?_
    refine retK.fin rfl (by simp (maxSteps := 1000000) only [go_sem] <;> exact rfl) (by simp (maxSteps := 1000000) only [go_sem] <;> exact rfl) (.of ?_)
    rfl
  · try simp only [decide_eq_true_eq, decide_eq_false_iff_not, Bool.or_eq_true, Bool.or_eq_false_iff, Bool.and_eq_true, Bool.and_eq_false_imp, Bool.not_eq_true', Bool.not_eq_false'] at hc1
    have hln : (liveS code).length = code.length + 1 := live_len2 code
    have hw1 : IntKind.i64.wrap ((code.length : Int) + 1) = (code.length : Int) + 1 := w64 (by omega) (by omega)
    have heq : (((code.length + 1 : Nat) : Int) = (code.length : Int) + 1) = True := eq_true (by omega)
    have hs : OkS (startS D l e n) 60 := start_ok hD hl hc1.1.2
    have hwk : IntKind.i64.wrap k = k := w64 (by omega) (by omega)
    refine AW.skip ?_
    show AW _ _ _ _ _
    refine AW.regS rfl ?_
    refine ARN.run1 (by simp (maxSteps := 1000000) only [go_sem, hln, hw1, heq, hs, hwk] <;> exact rfl) ?_
    refine ARN.pcall (fun hp => c35 code hc (by omega)) rfl (by simp (maxSteps := 1000000) only [go_sem, hln, hw1, heq, hs, hwk] <;> exact rfl) (by simp only [go_sem]) (by simp (maxSteps := 1000000) only [go_sem, hln, hw1, heq, hs, hwk] <;> exact rfl) ?_
    refine ARN.run1 (by simp (maxSteps := 1000000) only [go_sem, hln, hw1, heq, hs, hwk] <;> exact rfl) ?_
    refine ARN.fin (by first | (simp (disch := omega) only [go_sem, w64, wU, hln, hw1, heq, hs, hwk] <;> exact rfl) | exact rfl) ?_
    refine AW.seq ?_
    refine AW.regR rfl (by simp (maxSteps := 1000000) only [go_sem, hln, hw1, heq, hs, hwk] <;> exact rfl) (by first | (simp (disch := omega) only [go_sem, w64, wU, hln, hw1, heq, hs, hwk] <;> exact rfl) | exact rfl) ?_
    refine AW.condF (by simp (maxSteps := 1000000) only [go_sem, hln, hw1, heq, hs, hwk] <;> exact rfl) ?_
    refine AW.skip ?_
    show AW _ _ _ _ _
    refine AW.regS rfl ?_
    refine ARN.run1 (by simp (maxSteps := 1000000) only [go_sem, hln, hw1, heq, hs, hwk] <;> exact rfl) ?_
    refine ARN.pcall (fun hp => c26 D l e n) rfl (by simp (maxSteps := 1000000) only [go_sem, hln, hw1, heq, hs, hwk] <;> exact rfl) (by simp only [go_sem]) (by simp (maxSteps := 1000000) only [go_sem, hln, hw1, heq, hs, hwk] <;> exact rfl) ?_
    refine ARN.run1 (by simp (maxSteps := 1000000) only [go_sem, hln, hw1, heq, hs, hwk] <;> exact rfl) ?_
    refine ARN.fin (by first | (simp (disch := omega) only [go_sem, w64, wU, hln, hw1, heq, hs, hwk] <;> exact rfl) | exact rfl) ?_
    refine AW.seq ?_
    refine AW.regR rfl (by simp (maxSteps := 1000000) only [go_sem, hln, hw1, heq, hs, hwk] <;> exact rfl) (by first | (simp (disch := omega) only [go_sem, w64, wU, hln, hw1, heq, hs, hwk] <;> exact rfl) | exact rfl) ?_
    refine AW.block ?_
    refine AW.loopV (α := (Int) × (St)) (fun ((i, u) : (Int) × (St)) => [(7, .pv (.int .i64 i))]) (fun ((i, u) : (Int) × (St)) => [.box (plA code inp D l e n fuel most), .box (chA k r x), .box (stA u)]) (fun ((i, u) : (Int) × (St)) => (OkS u (60 + (u.steps - 0).toNat)) ∧ (0 ≤ u.steps) ∧ (u.steps = 0 ∨ u.steps ≤ fuel) ∧ (0 ≤ i) ∧ (i ≤ k)) (fun ((i, u) : (Int) × (St)) => (k - i).toNat) (0, startS D l e n) ?_ ?_ ?_
    · exact ⟨hs, Int.le_refl 0, .inl rfl, by omega, by omega⟩
    · refine Wk.to [] [0, 1, 2] hz (by decide) ?_ ?_
      · simp (maxSteps := 1000000) (disch := omega) only [go_sem, w64, wU, hln, hw1, heq, hs, hwk]
      · simp (maxSteps := 1000000) (disch := omega) only [go_sem, w64, wU, hln, hw1, heq, hs, hwk]
    · rintro ⟨i, u⟩ hF _ ht _ hh
      simp only [updT, go_sem] at ht hh
      subst ht; subst hh
      obtain ⟨h2, h3, h4, h5, h6⟩ := hF
      refine AW.seq ?_
      refine AW.regR rfl (by simp (maxSteps := 1000000) only [go_sem, hln, hw1, heq, hs, hwk] <;> exact rfl) (by first | (simp (disch := omega) only [go_sem, w64, wU, hln, hw1, heq, hs, hwk] <;> exact rfl) | exact rfl) ?_
      refine AW.cond (by simp (maxSteps := 1000000) only [go_sem, hln, hw1, heq, hs, hwk] <;> exact rfl) (fun hc3 => ?_) (fun hc3 => ?_)
      · try simp only [decide_eq_true_eq, decide_eq_false_iff_not, Bool.or_eq_true, Bool.or_eq_false_iff, Bool.and_eq_true, Bool.and_eq_false_imp, Bool.not_eq_true', Bool.not_eq_false'] at hc3
        have hro : OkS (stepS code inp most u) (60 + ((stepS code inp most u).steps - 0).toNat) ∧ (stepS code inp most u).steps = u.steps + 1 := run_ok (s := startS D l e n) h2 hc hii hc3.1.2 h3 (by omega) (by omega)
        refine AW.skip ?_
        show AW _ _ _ _ _
        refine AW.seq ?_
        refine AW.block ?_
        refine AW.reg rfl ?_
        refine ARN.run1 (by simp (maxSteps := 1000000) only [go_sem, hln, hw1, heq, hs, hwk, hro] <;> exact rfl) ?_
        refine ARN.pcall (fun hp => c27 code u inp most _ hc (by omega) h2 (by omega) (by omega) hii) rfl (by simp (maxSteps := 1000000) only [go_sem, hln, hw1, heq, hs, hwk, hro] <;> exact rfl) (by simp only [go_sem]) (by simp (maxSteps := 1000000) only [go_sem, hln, hw1, heq, hs, hwk, hro] <;> exact rfl) ?_
        refine ARN.run1 (by simp (maxSteps := 1000000) only [go_sem, hln, hw1, heq, hs, hwk, hro] <;> exact rfl) ?_
        refine ARN.fin1 (by first | (simp (disch := omega) only [go_sem, w64, wU, hln, hw1, heq, hs, hwk, hro] <;> exact rfl) | exact rfl) ?_
        show AW _ _ _ _ _
        refine AW.regR1 rfl (by simp (maxSteps := 1000000) only [go_sem, hln, hw1, heq, hs, hwk, hro] <;> exact rfl) (by first | (simp (disch := omega) only [go_sem, w64, wU, hln, hw1, heq, hs, hwk, hro] <;> exact rfl) | exact rfl) ?_
        refine ⟨((i + 1), stepS code inp most u), ?_, ?_, ?_⟩
        · (try dsimp only); omega
        · exact ⟨hro.1, by have := hro.2; omega, .inr (by have := hro.2; omega), by omega, by omega⟩
        · refine Wk.to [] [0, 1, 2] hz (by decide) ?_ ?_
          · simp (maxSteps := 1000000) (disch := omega) only [go_sem, w64, wU, hln, hw1, heq, hs, hwk, hro]
          · simp (maxSteps := 1000000) (disch := omega) only [go_sem, w64, wU, hln, hw1, heq, hs, hwk, hro]
      · try simp only [decide_eq_true_eq, decide_eq_false_iff_not, Bool.or_eq_true, Bool.or_eq_false_iff, Bool.and_eq_true, Bool.and_eq_false_imp, Bool.not_eq_true', Bool.not_eq_false'] at hc3
        refine AW.exit ?_
        show AW _ _ _ _ _
        have htm : r.tmod 8 = r % 8 := Int.tmod_eq_emod_of_nonneg hr.1
        refine AW.regR rfl (by simp (maxSteps := 1000000) only [go_sem, hln, hw1, heq, hs, hwk, htm] <;> exact rfl) (by first | (simp (disch := omega) only [go_sem, w64, wU, hln, hw1, heq, hs, hwk, htm] <;> exact rfl) | exact rfl) ?_
        refine AW.seq ?_
        by_cases hs12 : u.en = 0 ∧ 0 ≤ u.pc ∧ u.pc ≤ (code.length : Int)
        · have q0 := hs12.1; have q1 := hs12.2.1; have q2 : decide (u.pc < 0) = false := decide_eq_false (by omega); have q3 : decide ((code.length : Int) < u.pc) = false := decide_eq_false (by omega); have hra := b_at (l := liveS code) (j := u.pc) ⟨q1, by omega⟩; have hir : InR8 (r % 8) := ⟨by omega, by omega⟩
          refine AW.regS rfl ?_
          refine ARN.run1 (by simp (maxSteps := 1000000) only [go_sem, hln, hw1, heq, hs, hwk, htm, hs12, q0, q1, q2, q3, hra, hir] <;> exact rfl) ?_
          refine ARN.elx rfl (by simp (maxSteps := 1000000) only [go_sem, hln, hw1, heq, hs, hwk, htm, hs12, q0, q1, q2, q3, hra, hir] <;> exact rfl) (by simp (maxSteps := 1000000) only [go_sem, hln, hw1, heq, hs, hwk, htm, hs12, q0, q1, q2, q3, hra, hir] <;> exact rfl) (by simp (maxSteps := 1000000) only [go_sem, hln, hw1, heq, hs, hwk, htm, hs12, q0, q1, q2, q3, hra, hir] <;> exact rfl) (by simp (maxSteps := 1000000) only [go_sem, hln, hw1, heq, hs, hwk, htm, hs12, q0, q1, q2, q3, hra, hir] <;> exact rfl) (by simp (maxSteps := 1000000) only [go_sem, hln, hw1, heq, hs, hwk, htm, hs12, q0, q1, q2, q3, hra, hir] <;> exact rfl) ⟨hir.1, hir.2⟩ (by decide) (by simp (maxSteps := 1000000) only [go_sem, hln, hw1, heq, hs, hwk, htm, hs12, q0, q1, q2, q3, hra, hir] <;> exact rfl) ?_
          refine ARN.run1 (by simp (maxSteps := 1000000) only [go_sem, hln, hw1, heq, hs, hwk, htm, hs12, q0, q1, q2, q3, hra, hir] <;> exact rfl) ?_
          refine ARN.fin (by first | (simp (disch := omega) only [go_sem, w64, wU, hln, hw1, heq, hs, hwk, htm, hs12, q0, q1, q2, q3, hra, hir] <;> exact rfl) | exact rfl) ?_
          refine AW.cond (by simp (maxSteps := 1000000) only [go_sem, hln, hw1, heq, hs, hwk, htm, hs12, q0, q1, q2, q3, hra, hir] <;> exact rfl) (fun hc4 => ?_) (fun hc4 => ?_)
          · try simp only [decide_eq_true_eq, decide_eq_false_iff_not, Bool.or_eq_true, Bool.or_eq_false_iff, Bool.and_eq_true, Bool.and_eq_false_imp, Bool.not_eq_true', Bool.not_eq_false'] at hc4
            refine AW.regS rfl ?_
            refine ARN.pcall (fun hp => c29) rfl (by simp (maxSteps := 1000000) only [go_sem, hln, hw1, heq, hs, hwk, htm, hs12, q0, q1, q2, q3, hra, hir] <;> exact rfl) (by simp only [go_sem]) (by simp (maxSteps := 1000000) only [go_sem, hln, hw1, heq, hs, hwk, htm, hs12, q0, q1, q2, q3, hra, hir] <;> exact rfl) ?_
            refine ARN.run1 (by simp (maxSteps := 1000000) only [go_sem, hln, hw1, heq, hs, hwk, htm, hs12, q0, q1, q2, q3, hra, hir] <;> exact rfl) ?_
            refine ARN.fin (by first | (simp (disch := omega) only [go_sem, w64, wU, hln, hw1, heq, hs, hwk, htm, hs12, q0, q1, q2, q3, hra, hir] <;> exact rfl) | exact rfl) ?_
            refine retK.fin rfl (by simp (maxSteps := 1000000) only [go_sem, hln, hw1, heq, hs, hwk, htm, hs12, q0, q1, q2, q3, hra, hir] <;> exact rfl) (by simp (maxSteps := 1000000) only [go_sem, hln, hw1, heq, hs, hwk, htm, hs12, q0, q1, q2, q3, hra, hir] <;> exact rfl) (.of ?_)
            rfl
          · try simp only [decide_eq_true_eq, decide_eq_false_iff_not, Bool.or_eq_true, Bool.or_eq_false_iff, Bool.and_eq_true, Bool.and_eq_false_imp, Bool.not_eq_true', Bool.not_eq_false'] at hc4
            have hdead : ((liveS code).getD u.pc.toNat noB).get (r % 8) = false := by simpa using hc4
            have hs2 : OkS (u.wr (u.r.put (r % 8) x)) (60 + (u.steps - 0).toNat) := ⟨put_w h2.rw hir hx, h2.cN, h2.cw, h2.dN, h2.dw, h2.lN, h2.lw⟩
            have hA : OkS (runS code inp fuel most u) 1000 := (runS_ok h2 hc hii).more (by omega)
            have hB : OkS (runS code inp fuel most (u.wr (u.r.put (r % 8) x))) 1000 := (runS_ok hs2 hc hii).more (by show 60 + (u.steps - 0).toNat + (fuel - u.steps).toNat ≤ 1000; omega)
            have hsim : ∃ g', (runS code inp fuel most (u.wr (u.r.put (r % 8) x))) = (runS code inp fuel most u).wr g' := run_sim hc (by omega) (agr_dead hir hdead)
            have hT : OkS ((runS code inp fuel most u).wr (runS code inp fuel most (u.wr (u.r.put (r % 8) x))).r) 1000 := by obtain ⟨g', e⟩ := hsim; rw [wr_same e]; exact hB
            refine AW.skip ?_
            show AW _ _ _ _ _
            refine AW.regR rfl (by simp (maxSteps := 1000000) only [go_sem, hln, hw1, heq, hs, hwk, htm, hs12, q0, q1, q2, q3, hra, hir, hdead, hs2, hA, hB, hsim, hT] <;> exact rfl) (by first | (simp (disch := omega) only [go_sem, w64, wU, hln, hw1, heq, hs, hwk, htm, hs12, q0, q1, q2, q3, hra, hir, hdead, hs2, hA, hB, hsim, hT] <;> exact rfl) | exact rfl) ?_
            refine AW.regR rfl (by simp (maxSteps := 1000000) only [go_sem, hln, hw1, heq, hs, hwk, htm, hs12, q0, q1, q2, q3, hra, hir, hdead, hs2, hA, hB, hsim, hT] <;> exact rfl) (by first | (simp (disch := omega) only [go_sem, w64, wU, hln, hw1, heq, hs, hwk, htm, hs12, q0, q1, q2, q3, hra, hir, hdead, hs2, hA, hB, hsim, hT] <;> exact rfl) | exact rfl) ?_
            refine AW.regS rfl ?_
            refine ARN.run1 (by simp (maxSteps := 1000000) only [go_sem, hln, hw1, heq, hs, hwk, htm, hs12, q0, q1, q2, q3, hra, hir, hdead, hs2, hA, hB, hsim, hT] <;> exact rfl) ?_
            refine ARN.pcall (fun hp => c37 code u inp fuel most _ hc (by omega) h2 (by omega) (by omega) hii (by omega) (by omega)) rfl (by simp (maxSteps := 1000000) only [go_sem, hln, hw1, heq, hs, hwk, htm, hs12, q0, q1, q2, q3, hra, hir, hdead, hs2, hA, hB, hsim, hT] <;> exact rfl) (by simp only [go_sem]) (by simp (maxSteps := 1000000) only [go_sem, hln, hw1, heq, hs, hwk, htm, hs12, q0, q1, q2, q3, hra, hir, hdead, hs2, hA, hB, hsim, hT] <;> exact rfl) ?_
            refine ARN.run1 (by simp (maxSteps := 1000000) only [go_sem, hln, hw1, heq, hs, hwk, htm, hs12, q0, q1, q2, q3, hra, hir, hdead, hs2, hA, hB, hsim, hT] <;> exact rfl) ?_
            refine ARN.fin (by first | (simp (disch := omega) only [go_sem, w64, wU, hln, hw1, heq, hs, hwk, htm, hs12, q0, q1, q2, q3, hra, hir, hdead, hs2, hA, hB, hsim, hT] <;> exact rfl) | exact rfl) ?_
            refine AW.regS rfl ?_
            refine ARN.run1 (by simp (maxSteps := 1000000) only [go_sem, hln, hw1, heq, hs, hwk, htm, hs12, q0, q1, q2, q3, hra, hir, hdead, hs2, hA, hB, hsim, hT] <;> exact rfl) ?_
            refine ARN.pcall (fun hp => c37 code (u.wr (u.r.put (r % 8) x)) inp fuel most _ hc (by omega) hs2 (by show 60 + (u.steps - 0).toNat + (fuel - u.steps).toNat ≤ 1000; omega) (by omega) hii (by omega) (by show -9223372036854775808 ≤ u.steps; omega)) rfl (by simp (maxSteps := 1000000) only [go_sem, hln, hw1, heq, hs, hwk, htm, hs12, q0, q1, q2, q3, hra, hir, hdead, hs2, hA, hB, hsim, hT] <;> exact rfl) (by simp only [go_sem]) (by simp (maxSteps := 1000000) only [go_sem, hln, hw1, heq, hs, hwk, htm, hs12, q0, q1, q2, q3, hra, hir, hdead, hs2, hA, hB, hsim, hT] <;> exact rfl) ?_
            refine ARN.run1 (by simp (maxSteps := 1000000) only [go_sem, hln, hw1, heq, hs, hwk, htm, hs12, q0, q1, q2, q3, hra, hir, hdead, hs2, hA, hB, hsim, hT] <;> exact rfl) ?_
            refine ARN.fin (by first | (simp (disch := omega) only [go_sem, w64, wU, hln, hw1, heq, hs, hwk, htm, hs12, q0, q1, q2, q3, hra, hir, hdead, hs2, hA, hB, hsim, hT] <;> exact rfl) | exact rfl) ?_
            refine AW.regR rfl (by simp (maxSteps := 1000000) only [go_sem, hln, hw1, heq, hs, hwk, htm, hs12, q0, q1, q2, q3, hra, hir, hdead, hs2, hA, hB, hsim, hT] <;> exact rfl) (by first | (simp (disch := omega) only [go_sem, w64, wU, hln, hw1, heq, hs, hwk, htm, hs12, q0, q1, q2, q3, hra, hir, hdead, hs2, hA, hB, hsim, hT] <;> exact rfl) | exact rfl) ?_
            refine AW.regS rfl ?_
            refine ARN.run1 (by simp (maxSteps := 1000000) only [go_sem, hln, hw1, heq, hs, hwk, htm, hs12, q0, q1, q2, q3, hra, hir, hdead, hs2, hA, hB, hsim, hT] <;> exact rfl) ?_
            refine ARN.pcall (fun hp => c38 ((runS code inp fuel most u).wr (runS code inp fuel most (u.wr (u.r.put (r % 8) x))).r) (runS code inp fuel most (u.wr (u.r.put (r % 8) x))) hT.c6 hB.c6 (hT.sm (by decide)) (hB.sm (by decide))) rfl (by simp (maxSteps := 1000000) only [go_sem, hln, hw1, heq, hs, hwk, htm, hs12, q0, q1, q2, q3, hra, hir, hdead, hs2, hA, hB, hsim, hT] <;> exact rfl) (by simp only [go_sem]) (by simp (maxSteps := 1000000) only [go_sem, hln, hw1, heq, hs, hwk, htm, hs12, q0, q1, q2, q3, hra, hir, hdead, hs2, hA, hB, hsim, hT] <;> exact rfl) ?_
            refine ARN.run1 (by simp (maxSteps := 1000000) only [go_sem, hln, hw1, heq, hs, hwk, htm, hs12, q0, q1, q2, q3, hra, hir, hdead, hs2, hA, hB, hsim, hT] <;> exact rfl) ?_
            refine ARN.pcall (fun hp => c39 (runS code inp fuel most u).D (runS code inp fuel most (u.wr (u.r.put (r % 8) x))).D (runS code inp fuel most u).l (runS code inp fuel most (u.wr (u.r.put (r % 8) x))).l (runS code inp fuel most u).e (runS code inp fuel most (u.wr (u.r.put (r % 8) x))).e (hA.sm (by decide)) (hB.sm (by decide))) rfl (by simp (maxSteps := 1000000) only [go_sem, hln, hw1, heq, hs, hwk, htm, hs12, q0, q1, q2, q3, hra, hir, hdead, hs2, hA, hB, hsim, hT] <;> exact rfl) (by simp only [go_sem]) (by simp (maxSteps := 1000000) only [go_sem, hln, hw1, heq, hs, hwk, htm, hs12, q0, q1, q2, q3, hra, hir, hdead, hs2, hA, hB, hsim, hT] <;> exact rfl) ?_
            refine ARN.run1 (by simp (maxSteps := 1000000) only [go_sem, hln, hw1, heq, hs, hwk, htm, hs12, q0, q1, q2, q3, hra, hir, hdead, hs2, hA, hB, hsim, hT] <;> exact rfl) ?_
            refine ARN.pcall (fun hp => c29) rfl (by simp (maxSteps := 1000000) only [go_sem, hln, hw1, heq, hs, hwk, htm, hs12, q0, q1, q2, q3, hra, hir, hdead, hs2, hA, hB, hsim, hT] <;> exact rfl) (by simp only [go_sem]) (by simp (maxSteps := 1000000) only [go_sem, hln, hw1, heq, hs, hwk, htm, hs12, q0, q1, q2, q3, hra, hir, hdead, hs2, hA, hB, hsim, hT] <;> exact rfl) ?_
            refine ARN.run1 (by simp (maxSteps := 1000000) only [go_sem, hln, hw1, heq, hs, hwk, htm, hs12, q0, q1, q2, q3, hra, hir, hdead, hs2, hA, hB, hsim, hT] <;> exact rfl) ?_
            refine ARN.fin (by first | (simp (disch := omega) only [go_sem, w64, wU, hln, hw1, heq, hs, hwk, htm, hs12, q0, q1, q2, q3, hra, hir, hdead, hs2, hA, hB, hsim, hT] <;> exact rfl) | exact rfl) ?_
            refine retK.fin rfl (by simp (maxSteps := 1000000) only [go_sem, hln, hw1, heq, hs, hwk, htm, hs12, q0, q1, q2, q3, hra, hir, hdead, hs2, hA, hB, hsim, hT] <;> exact rfl) (by simp (maxSteps := 1000000) only [go_sem, hln, hw1, heq, hs, hwk, htm, hs12, q0, q1, q2, q3, hra, hir, hdead, hs2, hA, hB, hsim, hT] <;> exact rfl) (.of ?_)
            obtain ⟨g', eg⟩ := hsim
            have e1 := wr_same eg
            have e2 : (runS code inp fuel most (u.wr (u.r.put (r % 8) x))).D = (runS code inp fuel most u).D ∧ (runS code inp fuel most (u.wr (u.r.put (r % 8) x))).l = (runS code inp fuel most u).l ∧ (runS code inp fuel most (u.wr (u.r.put (r % 8) x))).e = (runS code inp fuel most u).e := by rw [eg]; exact ⟨rfl, rfl, rfl⟩
            rw [e1]; simp [same_self, sameD, e2.1, e2.2.1, e2.2.2]
        · have q4 : or (or (!decide (u.en = 0)) (decide (u.pc < 0))) (decide ((code.length : Int) < u.pc)) = true := by simp; omega
          have hb12 := decide_eq_false hs12
          refine AW.regS rfl ?_
          refine ARN.runK 17 (by simp (maxSteps := 1000000) only [go_sem, hln, hw1, heq, hs, hwk, htm, hb12, q4] <;> exact rfl) ?_
          refine ARN.off (by simp (maxSteps := 1000000) only [go_sem, hln, hw1, heq, hs, hwk, htm, hb12, q4] <;> exact rfl) (by simp (maxSteps := 1000000) only [go_sem, hln, hw1, heq, hs, hwk, htm, hb12, q4] <;> exact rfl) (by simp (maxSteps := 1000000) only [go_sem, hln, hw1, heq, hs, hwk, htm, hb12, q4] <;> exact rfl) (by simp (maxSteps := 1000000) only [go_sem, hln, hw1, heq, hs, hwk, htm, hb12, q4] <;> exact rfl) ?_
          refine ARN.off (by simp (maxSteps := 1000000) only [go_sem, hln, hw1, heq, hs, hwk, htm, hb12, q4] <;> exact rfl) (by simp (maxSteps := 1000000) only [go_sem, hln, hw1, heq, hs, hwk, htm, hb12, q4] <;> exact rfl) (by simp (maxSteps := 1000000) only [go_sem, hln, hw1, heq, hs, hwk, htm, hb12, q4] <;> exact rfl) (by simp (maxSteps := 1000000) only [go_sem, hln, hw1, heq, hs, hwk, htm, hb12, q4] <;> exact rfl) ?_
          refine ARN.off (by simp (maxSteps := 1000000) only [go_sem, hln, hw1, heq, hs, hwk, htm, hb12, q4] <;> exact rfl) (by simp (maxSteps := 1000000) only [go_sem, hln, hw1, heq, hs, hwk, htm, hb12, q4] <;> exact rfl) (by simp (maxSteps := 1000000) only [go_sem, hln, hw1, heq, hs, hwk, htm, hb12, q4] <;> exact rfl) (by simp (maxSteps := 1000000) only [go_sem, hln, hw1, heq, hs, hwk, htm, hb12, q4] <;> exact rfl) ?_
          refine ARN.off (by simp (maxSteps := 1000000) only [go_sem, hln, hw1, heq, hs, hwk, htm, hb12, q4] <;> exact rfl) (by simp (maxSteps := 1000000) only [go_sem, hln, hw1, heq, hs, hwk, htm, hb12, q4] <;> exact rfl) (by simp (maxSteps := 1000000) only [go_sem, hln, hw1, heq, hs, hwk, htm, hb12, q4] <;> exact rfl) (by simp (maxSteps := 1000000) only [go_sem, hln, hw1, heq, hs, hwk, htm, hb12, q4] <;> exact rfl) ?_
          refine ARN.off (by simp (maxSteps := 1000000) only [go_sem, hln, hw1, heq, hs, hwk, htm, hb12, q4] <;> exact rfl) (by simp (maxSteps := 1000000) only [go_sem, hln, hw1, heq, hs, hwk, htm, hb12, q4] <;> exact rfl) (by simp (maxSteps := 1000000) only [go_sem, hln, hw1, heq, hs, hwk, htm, hb12, q4] <;> exact rfl) (by simp (maxSteps := 1000000) only [go_sem, hln, hw1, heq, hs, hwk, htm, hb12, q4] <;> exact rfl) ?_
          refine ARN.off (by simp (maxSteps := 1000000) only [go_sem, hln, hw1, heq, hs, hwk, htm, hb12, q4] <;> exact rfl) (by simp (maxSteps := 1000000) only [go_sem, hln, hw1, heq, hs, hwk, htm, hb12, q4] <;> exact rfl) (by simp (maxSteps := 1000000) only [go_sem, hln, hw1, heq, hs, hwk, htm, hb12, q4] <;> exact rfl) (by simp (maxSteps := 1000000) only [go_sem, hln, hw1, heq, hs, hwk, htm, hb12, q4] <;> exact rfl) ?_
          refine ARN.off (by simp (maxSteps := 1000000) only [go_sem, hln, hw1, heq, hs, hwk, htm, hb12, q4] <;> exact rfl) (by simp (maxSteps := 1000000) only [go_sem, hln, hw1, heq, hs, hwk, htm, hb12, q4] <;> exact rfl) (by simp (maxSteps := 1000000) only [go_sem, hln, hw1, heq, hs, hwk, htm, hb12, q4] <;> exact rfl) (by simp (maxSteps := 1000000) only [go_sem, hln, hw1, heq, hs, hwk, htm, hb12, q4] <;> exact rfl) ?_
          refine ARN.run1S (by simp (maxSteps := 1000000) only [go_sem, hln, hw1, heq, hs, hwk, htm, hb12, q4] <;> exact rfl) ?_
          refine ARN.fin (by first | (simp (disch := omega) only [go_sem, w64, wU, hln, hw1, heq, hs, hwk, htm, hb12, q4] <;> exact rfl) | exact rfl) ?_
          refine AW.condT (by simp (maxSteps := 1000000) only [go_sem, hln, hw1, heq, hs, hwk, htm, hb12, q4] <;> exact rfl) ?_
          refine AW.regS rfl ?_
          refine ARN.pcall (fun hp => c29) rfl (by simp (maxSteps := 1000000) only [go_sem, hln, hw1, heq, hs, hwk, htm, hb12, q4] <;> exact rfl) (by simp only [go_sem]) (by simp (maxSteps := 1000000) only [go_sem, hln, hw1, heq, hs, hwk, htm, hb12, q4] <;> exact rfl) ?_
          refine ARN.run1 (by simp (maxSteps := 1000000) only [go_sem, hln, hw1, heq, hs, hwk, htm, hb12, q4] <;> exact rfl) ?_
          refine ARN.fin (by first | (simp (disch := omega) only [go_sem, w64, wU, hln, hw1, heq, hs, hwk, htm, hb12, q4] <;> exact rfl) | exact rfl) ?_
          refine retK.fin rfl (by simp (maxSteps := 1000000) only [go_sem, hln, hw1, heq, hs, hwk, htm, hb12, q4] <;> exact rfl) (by simp (maxSteps := 1000000) only [go_sem, hln, hw1, heq, hs, hwk, htm, hb12, q4] <;> exact rfl) (.of ?_)
          rfl
end Go.Ab.Try
