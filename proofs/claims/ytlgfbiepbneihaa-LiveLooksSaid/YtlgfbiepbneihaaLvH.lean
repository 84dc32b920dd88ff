/- Registers that an instruction reads, and sets. -/
import Derived.Test.YtlgfbiepbneihaaLvG
namespace Go.Ab.Try
open Go.Proofs Go.Ab
set_option linter.unusedVariables false
set_option linter.unusedSimpArgs false
set_option linter.unnecessarySimpa false
set_option maxRecDepth 100000
attribute [go_sem] bR
theorem put_8 (g : B8) (x : Int) (y : Bool) : bR (g.put x y) = [.bool (upd8 0 x g.a y), .bool (upd8 1 x g.b y), .bool (upd8 2 x g.c y), .bool (upd8 3 x g.d y), .bool (upd8 4 x g.e y), .bool (upd8 5 x g.f y), .bool (upd8 6 x g.g y), .bool (upd8 7 x g.h y)] := rfl
theorem c62a (x : Int) (hx : InR8 x) : PC Try.prog 62 [.lst true 1 [[.int .i64 x]]] (.agg (bR (noB.put x true))) := by
  refine PC.start 16 Try.call62 Try.func62 rfl Try.ntmps62 Try.results62 (by simp only [go_sem]; exact rfl) fun z hz => ?_
  refine AW.regR rfl (by simp (maxSteps := 1000000) only [go_sem, hx] <;> exact rfl) (by first | (simp (disch := omega) only [go_sem, w64, wU, hx] <;> exact rfl) | exact rfl) ?_
  refine AW.regR rfl (by simp (maxSteps := 1000000) only [go_sem, hx] <;> exact rfl) (by first | (simp (disch := omega) only [go_sem, w64, wU, hx] <;> exact rfl) | exact rfl) ?_
  refine AW.seq ?_
  refine AW.regR rfl (by simp (maxSteps := 1000000) only [go_sem, hx] <;> exact rfl) (by first | (simp (disch := omega) only [go_sem, w64, wU, hx] <;> exact rfl) | exact rfl) ?_
  refine AW.block ?_
  refine AW.rounds 2 ?_
  refine ARounds.mk ?_
  refine AW.regR rfl (by simp (maxSteps := 1000000) only [go_sem, hx] <;> exact rfl) (by first | (simp (disch := omega) only [go_sem, w64, wU, hx] <;> exact rfl) | exact rfl) ?_
  refine AW.seq ?_
  refine AW.condT (by simp (maxSteps := 1000000) only [go_sem, hx] <;> exact rfl) ?_
  refine AW.skip ?_
  show AW _ _ _ _ _
  refine AW.seq ?_
  refine AW.block ?_
  refine AW.regR rfl (by simp (maxSteps := 1000000) only [go_sem, hx] <;> exact rfl) (by first | (simp (disch := omega) only [go_sem, w64, wU, hx] <;> exact rfl) | exact rfl) ?_
  refine AW.regR1 rfl (by simp (maxSteps := 1000000) only [go_sem, hx] <;> exact rfl) (by first | (simp (disch := omega) only [go_sem, w64, wU, hx] <;> exact rfl) | exact rfl) ?_
  show AW _ _ _ _ _
  refine AW.regR1 rfl (by simp (maxSteps := 1000000) only [go_sem, hx] <;> exact rfl) (by first | (simp (disch := omega) only [go_sem, w64, wU, hx] <;> exact rfl) | exact rfl) ?_
  show ARounds _ _ _ _ _ _
  refine ARounds.mk ?_
  refine AW.regR rfl (by simp (maxSteps := 1000000) only [go_sem, hx] <;> exact rfl) (by first | (simp (disch := omega) only [go_sem, w64, wU, hx] <;> exact rfl) | exact rfl) ?_
  refine AW.seq ?_
  refine AW.condF (by simp (maxSteps := 1000000) only [go_sem, hx] <;> exact rfl) ?_
  refine AW.exit ?_
  show AW _ _ _ _ _
  refine AW.regR rfl (by simp (maxSteps := 1000000) only [go_sem, hx] <;> exact rfl) (by first | (simp (disch := omega) only [go_sem, w64, wU, hx] <;> exact rfl) | exact rfl) ?_
  refine retK.fin rfl (by simp (maxSteps := 1000000) only [go_sem, hx] <;> exact rfl) (by simp (maxSteps := 1000000) only [go_sem, hx] <;> exact rfl) (.of ?_)
  rfl
theorem c62b (x y : Int) (hx : InR8 x) (hy : InR8 y) : PC Try.prog 62 [.lst true 1 [[.int .i64 x], [.int .i64 y]]] (.agg (bR ((noB.put x true).put y true))) := by
  refine PC.start 16 Try.call62 Try.func62 rfl Try.ntmps62 Try.results62 (by simp only [go_sem]; exact rfl) fun z hz => ?_
  refine AW.regR rfl (by simp (maxSteps := 1000000) only [go_sem, hx, hy] <;> exact rfl) (by first | (simp (disch := omega) only [go_sem, w64, wU, hx, hy] <;> exact rfl) | exact rfl) ?_
  refine AW.regR rfl (by simp (maxSteps := 1000000) only [go_sem, hx, hy] <;> exact rfl) (by first | (simp (disch := omega) only [go_sem, w64, wU, hx, hy] <;> exact rfl) | exact rfl) ?_
  refine AW.seq ?_
  refine AW.regR rfl (by simp (maxSteps := 1000000) only [go_sem, hx, hy] <;> exact rfl) (by first | (simp (disch := omega) only [go_sem, w64, wU, hx, hy] <;> exact rfl) | exact rfl) ?_
  refine AW.block ?_
  refine AW.rounds 3 ?_
  refine ARounds.mk ?_
  refine AW.regR rfl (by simp (maxSteps := 1000000) only [go_sem, hx, hy] <;> exact rfl) (by first | (simp (disch := omega) only [go_sem, w64, wU, hx, hy] <;> exact rfl) | exact rfl) ?_
  refine AW.seq ?_
  refine AW.condT (by simp (maxSteps := 1000000) only [go_sem, hx, hy] <;> exact rfl) ?_
  refine AW.skip ?_
  show AW _ _ _ _ _
  refine AW.seq ?_
  refine AW.block ?_
  refine AW.regR rfl (by simp (maxSteps := 1000000) only [go_sem, hx, hy] <;> exact rfl) (by first | (simp (disch := omega) only [go_sem, w64, wU, hx, hy] <;> exact rfl) | exact rfl) ?_
  refine AW.regR1 rfl (by simp (maxSteps := 1000000) only [go_sem, hx, hy] <;> exact rfl) (by first | (simp (disch := omega) only [go_sem, w64, wU, hx, hy] <;> exact rfl) | exact rfl) ?_
  show AW _ _ _ _ _
  refine AW.regR1 rfl (by simp (maxSteps := 1000000) only [go_sem, hx, hy] <;> exact rfl) (by first | (simp (disch := omega) only [go_sem, w64, wU, hx, hy] <;> exact rfl) | exact rfl) ?_
  show ARounds _ _ _ _ _ _
  refine ARounds.mk ?_
  refine AW.regR rfl (by simp (maxSteps := 1000000) only [go_sem, hx, hy] <;> exact rfl) (by first | (simp (disch := omega) only [go_sem, w64, wU, hx, hy] <;> exact rfl) | exact rfl) ?_
  refine AW.seq ?_
  refine AW.condT (by simp (maxSteps := 1000000) only [go_sem, hx, hy] <;> exact rfl) ?_
  refine AW.skip ?_
  show AW _ _ _ _ _
  refine AW.seq ?_
  refine AW.block ?_
  refine AW.regR rfl (by simp (maxSteps := 1000000) only [go_sem, hx, hy] <;> exact rfl) (by first | (simp (disch := omega) only [go_sem, w64, wU, hx, hy] <;> exact rfl) | exact rfl) ?_
  refine AW.regR1 rfl (by simp (maxSteps := 1000000) only [go_sem, hx, hy] <;> exact rfl) (by first | (simp (disch := omega) only [go_sem, w64, wU, hx, hy] <;> exact rfl) | exact rfl) ?_
  show AW _ _ _ _ _
  refine AW.regR1 rfl (by simp (maxSteps := 1000000) only [go_sem, hx, hy] <;> exact rfl) (by first | (simp (disch := omega) only [go_sem, w64, wU, hx, hy] <;> exact rfl) | exact rfl) ?_
  show ARounds _ _ _ _ _ _
  refine ARounds.mk ?_
  refine AW.regR rfl (by simp (maxSteps := 1000000) only [go_sem, hx, hy] <;> exact rfl) (by first | (simp (disch := omega) only [go_sem, w64, wU, hx, hy] <;> exact rfl) | exact rfl) ?_
  refine AW.seq ?_
  refine AW.condF (by simp (maxSteps := 1000000) only [go_sem, hx, hy] <;> exact rfl) ?_
  refine AW.exit ?_
  show AW _ _ _ _ _
  refine AW.regR rfl (by simp (maxSteps := 1000000) only [go_sem, hx, hy] <;> exact rfl) (by first | (simp (disch := omega) only [go_sem, w64, wU, hx, hy] <;> exact rfl) | exact rfl) ?_
  refine retK.fin rfl (by simp (maxSteps := 1000000) only [go_sem, hx, hy] <;> exact rfl) (by simp (maxSteps := 1000000) only [go_sem, hx, hy] <;> exact rfl) (.of ?_)
  rfl
theorem c93 (n : Int) : PC Try.prog 93 [.int .i64 n] (.bool (decide (InR8 n))) := by
  refine PC.start 9 Try.call93 Try.func93 rfl Try.ntmps93 Try.results93 (by simp only [go_sem]; exact rfl) fun z hz => ?_
  refine AW.regR rfl (by simp (maxSteps := 1000000) only [go_sem] <;> exact rfl) (by first | (simp (disch := omega) only [go_sem, w64, wU] <;> exact rfl) | exact rfl) ?_
  refine AW.regR rfl (by simp (maxSteps := 1000000) only [go_sem] <;> exact rfl) (by first | (simp (disch := omega) only [go_sem, w64, wU] <;> exact rfl) | exact rfl) ?_
  refine retK.fin rfl (by simp (maxSteps := 1000000) only [go_sem] <;> exact rfl) (by simp (maxSteps := 1000000) only [go_sem] <;> exact rfl) (.of ?_)
  exact congrArg PV.bool (by rw [Bool.eq_iff_iff, Bool.and_eq_true, decide_eq_true_eq, decide_eq_true_eq, decide_eq_true_eq]; exact Iff.rfl)
theorem c63 (op a b c m : Int) : PC Try.prog 63 [.agg [.int .i64 op, .int .i64 a, .int .i64 b, .int .i64 c, .int .u64 m]] (.bool (decide (namS op a b c))) := by
  refine PC.start 26 Try.call63 Try.func63 rfl Try.ntmps63 Try.results63 (by simp only [go_sem]; exact rfl) fun z hz => ?_
  refine AW.regR rfl (by simp (maxSteps := 1000000) only [go_sem] <;> exact rfl) (by first | (simp (disch := omega) only [go_sem, w64, wU] <;> exact rfl) | exact rfl) ?_
  refine AW.regS rfl ?_
  refine ARN.run1 (by simp (maxSteps := 1000000) only [go_sem] <;> exact rfl) ?_
  refine ARN.pcall (fun hp => c93 a) rfl (by simp (maxSteps := 1000000) only [go_sem] <;> exact rfl) (by simp only [go_sem]) (by simp (maxSteps := 1000000) only [go_sem] <;> exact rfl) ?_
  refine ARN.run1 (by simp (maxSteps := 1000000) only [go_sem] <;> exact rfl) ?_
  refine ARN.pcall (fun hp => c93 b) rfl (by simp (maxSteps := 1000000) only [go_sem] <;> exact rfl) (by simp only [go_sem]) (by simp (maxSteps := 1000000) only [go_sem] <;> exact rfl) ?_
  refine ARN.run1 (by simp (maxSteps := 1000000) only [go_sem] <;> exact rfl) ?_
  refine ARN.pcall (fun hp => c93 c) rfl (by simp (maxSteps := 1000000) only [go_sem] <;> exact rfl) (by simp only [go_sem]) (by simp (maxSteps := 1000000) only [go_sem] <;> exact rfl) ?_
  refine ARN.run1 (by simp (maxSteps := 1000000) only [go_sem] <;> exact rfl) ?_
  refine ARN.fin (by first | (simp (disch := omega) only [go_sem, w64, wU] <;> exact rfl) | exact rfl) ?_
  refine retK.fin rfl (by simp (maxSteps := 1000000) only [go_sem] <;> exact rfl) (by simp (maxSteps := 1000000) only [go_sem] <;> exact rfl) (.of ?_)
  exact congrArg PV.bool (by rw [Bool.eq_iff_iff]; simp only [Bool.and_eq_true, decide_eq_true_eq]; unfold namS; constructor <;> intro h <;> simp_all)
theorem c61 (op a b c m : Int) : PC Try.prog 61 [.agg [.int .i64 op, .int .i64 a, .int .i64 b, .int .i64 c, .int .u64 m]] (.bool (decide (namS op a b c))) := by
  refine PC.start 20 Try.call61 Try.func61 rfl Try.ntmps61 Try.results61 (by simp only [go_sem]; exact rfl) fun z hz => ?_
  refine AW.regR rfl (by simp (maxSteps := 1000000) only [go_sem] <;> exact rfl) (by first | (simp (disch := omega) only [go_sem, w64, wU] <;> exact rfl) | exact rfl) ?_
  refine AW.regR rfl (by simp (maxSteps := 1000000) only [go_sem] <;> exact rfl) (by first | (simp (disch := omega) only [go_sem, w64, wU] <;> exact rfl) | exact rfl) ?_
  by_cases hs2 : 1 ≤ op ∧ op ≤ 15
  · have hnm : (nameS op = ⟨#[]⟩) = False := eq_false (name_in hs2.1 hs2.2)
    refine AW.regL ?_
    refine AWL.runG (by simp (maxSteps := 1000000) only [go_sem, hs2, hnm] <;> exact rfl) ?_
    refine AWL.pcall2 (c91 op) (by simp (maxSteps := 1000000) only [go_sem, hs2, hnm] <;> exact rfl) rfl (by simp (maxSteps := 1000000) only [go_sem, hs2, hnm] <;> exact rfl) (by simp (maxSteps := 1000000) only [go_sem, hs2, hnm] <;> exact rfl) ?_
    refine AWL.runG (by simp (maxSteps := 1000000) only [go_sem, hs2, hnm] <;> exact rfl) ?_
    refine AWL.icall2 rfl (by simp (maxSteps := 1000000) only [go_sem, hs2, hnm] <;> exact rfl) (by simp (maxSteps := 1000000) only [go_sem, hs2, hnm] <;> exact rfl) Try.call92 Try.func92 rfl Try.ntmps92 Try.results92 (by simp (maxSteps := 1000000) only [go_sem, hs2, hnm] <;> exact rfl) (by simp (maxSteps := 1000000) only [go_sem, hs2, hnm] <;> exact rfl) (fun z1 hz1 => ?_)
    refine AW.regR rfl (by simp (maxSteps := 1000000) only [go_sem, hs2, hnm] <;> exact rfl) (by first | (simp (disch := omega) only [go_sem, w64, wU, hs2, hnm] <;> exact rfl) | exact rfl) ?_
    refine AW.regL ?_
    refine AWL.runG (by simp (maxSteps := 1000000) only [go_sem, hs2, hnm] <;> exact rfl) ?_
    refine AWL.icall2 rfl (by simp (maxSteps := 1000000) only [go_sem, hs2, hnm] <;> exact rfl) (by simp (maxSteps := 1000000) only [go_sem, hs2, hnm] <;> exact rfl) Try.call130 Try.func130 rfl Try.ntmps130 Try.results130 (by simp (maxSteps := 1000000) only [go_sem, hs2, hnm] <;> exact rfl) (by simp (maxSteps := 1000000) only [go_sem, hs2, hnm] <;> exact rfl) (fun z2 hz2 => ?_)
    refine AW.regR rfl (by simp (maxSteps := 1000000) only [go_sem, hs2, hnm] <;> exact rfl) (by first | (simp (disch := omega) only [go_sem, w64, wU, hs2, hnm] <;> exact rfl) | exact rfl) ?_
    refine AW.seq ?_
    refine AW.regR rfl (by simp (maxSteps := 1000000) only [go_sem, hs2, hnm] <;> exact rfl) (by first | (simp (disch := omega) only [go_sem, w64, wU, hs2, hnm] <;> exact rfl) | exact rfl) ?_
    refine AW.block ?_
    refine AW.rounds 4 ?_
    refine ARounds.mk ?_
    refine AW.regR rfl (by simp (maxSteps := 1000000) only [go_sem, hs2, hnm] <;> exact rfl) (by first | (simp (disch := omega) only [go_sem, w64, wU, hs2, hnm] <;> exact rfl) | exact rfl) ?_
    refine AW.seq ?_
    refine AW.condT (by simp (maxSteps := 1000000) only [go_sem, hs2, hnm] <;> exact rfl) ?_
    refine AW.skip ?_
    show AW _ _ _ _ _
    refine AW.seq ?_
    refine AW.block ?_
    refine AW.regR rfl (by simp (maxSteps := 1000000) only [go_sem, hs2, hnm] <;> exact rfl) (by first | (simp (disch := omega) only [go_sem, w64, wU, hs2, hnm] <;> exact rfl) | exact rfl) ?_
    refine AW.regL ?_
    refine AWL.runG (by simp (maxSteps := 1000000) only [go_sem, hs2, hnm] <;> exact rfl) ?_
    refine AWL.icall2 rfl (by simp (maxSteps := 1000000) only [go_sem, hs2, hnm] <;> exact rfl) (by simp (maxSteps := 1000000) only [go_sem, hs2, hnm] <;> exact rfl) Try.call90 Try.func90 rfl Try.ntmps90 Try.results90 (by simp (maxSteps := 1000000) only [go_sem, hs2, hnm] <;> exact rfl) (by simp (maxSteps := 1000000) only [go_sem, hs2, hnm] <;> exact rfl) (fun z3 hz3 => ?_)
    refine AW.regR rfl (by simp (maxSteps := 1000000) only [go_sem, hs2, hnm] <;> exact rfl) (by first | (simp (disch := omega) only [go_sem, w64, wU, hs2, hnm] <;> exact rfl) | exact rfl) ?_
    refine AW.regR rfl (by simp (maxSteps := 1000000) only [go_sem, hs2, hnm] <;> exact rfl) (by first | (simp (disch := omega) only [go_sem, w64, wU, hs2, hnm] <;> exact rfl) | exact rfl) ?_
    refine icK.finQ rfl (by simp (maxSteps := 1000000) only [go_sem, hs2, hnm] <;> exact rfl) (by simp (maxSteps := 1000000) only [go_sem, hs2, hnm] <;> exact rfl) ?_
    refine AWL.fin (by first | (simp (disch := omega) only [go_sem, w64, wU, hs2, hnm] <;> exact rfl) | exact rfl) ?_
    refine AW.cond (by simp (maxSteps := 1000000) only [go_sem, hs2, hnm] <;> exact rfl) (fun hc1 => ?_) (fun hc1 => ?_)
    · try simp only [decide_eq_true_eq, decide_eq_false_iff_not, Bool.or_eq_true, Bool.or_eq_false_iff, Bool.and_eq_true, Bool.and_eq_false_imp, Bool.not_eq_true', Bool.not_eq_false'] at hc1
      refine AW.regR rfl (by simp (maxSteps := 1000000) only [go_sem, hs2, hnm] <;> exact rfl) (by first | (simp (disch := omega) only [go_sem, w64, wU, hs2, hnm] <;> exact rfl) | exact rfl) ?_
      refine icK.finQ rfl (by simp (maxSteps := 1000000) only [go_sem, hs2, hnm] <;> exact rfl) (by simp (maxSteps := 1000000) only [go_sem, hs2, hnm] <;> exact rfl) ?_
      refine AWL.runG (by simp (maxSteps := 1000000) only [go_sem, hs2, hnm] <;> exact rfl) ?_
      refine AWL.fin (by first | (simp (disch := omega) only [go_sem, w64, wU, hs2, hnm] <;> exact rfl) | exact rfl) ?_
      refine icK.finQ rfl (by simp (maxSteps := 1000000) only [go_sem, hs2, hnm] <;> exact rfl) (by simp (maxSteps := 1000000) only [go_sem, hs2, hnm] <;> exact rfl) ?_
      refine AWL.runG (by simp (maxSteps := 1000000) only [go_sem, hs2, hnm] <;> exact rfl) ?_
      refine AWL.fin (by first | (simp (disch := omega) only [go_sem, w64, wU, hs2, hnm] <;> exact rfl) | exact rfl) ?_
      refine retK.fin rfl (by simp (maxSteps := 1000000) only [go_sem, hs2, hnm] <;> exact rfl) (by simp (maxSteps := 1000000) only [go_sem, hs2, hnm] <;> exact rfl) (.of ?_)
      exact congrArg PV.bool (decide_eq_false (fun q => by unfold namS InR8 at q; omega)).symm
    · try simp only [decide_eq_true_eq, decide_eq_false_iff_not, Bool.or_eq_true, Bool.or_eq_false_iff, Bool.and_eq_true, Bool.and_eq_false_imp, Bool.not_eq_true', Bool.not_eq_false'] at hc1
      refine AW.skip ?_
      show AW _ _ _ _ _
      refine AW.regR1 rfl (by simp (maxSteps := 1000000) only [go_sem, hs2, hnm] <;> exact rfl) (by first | (simp (disch := omega) only [go_sem, w64, wU, hs2, hnm] <;> exact rfl) | exact rfl) ?_
      show ARounds _ _ _ _ _ _
      refine ARounds.mk ?_
      refine AW.regR rfl (by simp (maxSteps := 1000000) only [go_sem, hs2, hnm] <;> exact rfl) (by first | (simp (disch := omega) only [go_sem, w64, wU, hs2, hnm] <;> exact rfl) | exact rfl) ?_
      refine AW.seq ?_
      refine AW.condT (by simp (maxSteps := 1000000) only [go_sem, hs2, hnm] <;> exact rfl) ?_
      refine AW.skip ?_
      show AW _ _ _ _ _
      refine AW.seq ?_
      refine AW.block ?_
      refine AW.regR rfl (by simp (maxSteps := 1000000) only [go_sem, hs2, hnm] <;> exact rfl) (by first | (simp (disch := omega) only [go_sem, w64, wU, hs2, hnm] <;> exact rfl) | exact rfl) ?_
      refine AW.regL ?_
      refine AWL.runG (by simp (maxSteps := 1000000) only [go_sem, hs2, hnm] <;> exact rfl) ?_
      refine AWL.icall2 rfl (by simp (maxSteps := 1000000) only [go_sem, hs2, hnm] <;> exact rfl) (by simp (maxSteps := 1000000) only [go_sem, hs2, hnm] <;> exact rfl) Try.call90 Try.func90 rfl Try.ntmps90 Try.results90 (by simp (maxSteps := 1000000) only [go_sem, hs2, hnm] <;> exact rfl) (by simp (maxSteps := 1000000) only [go_sem, hs2, hnm] <;> exact rfl) (fun z4 hz4 => ?_)
      refine AW.regR rfl (by simp (maxSteps := 1000000) only [go_sem, hs2, hnm] <;> exact rfl) (by first | (simp (disch := omega) only [go_sem, w64, wU, hs2, hnm] <;> exact rfl) | exact rfl) ?_
      refine AW.regR rfl (by simp (maxSteps := 1000000) only [go_sem, hs2, hnm] <;> exact rfl) (by first | (simp (disch := omega) only [go_sem, w64, wU, hs2, hnm] <;> exact rfl) | exact rfl) ?_
      refine icK.finQ rfl (by simp (maxSteps := 1000000) only [go_sem, hs2, hnm] <;> exact rfl) (by simp (maxSteps := 1000000) only [go_sem, hs2, hnm] <;> exact rfl) ?_
      refine AWL.fin (by first | (simp (disch := omega) only [go_sem, w64, wU, hs2, hnm] <;> exact rfl) | exact rfl) ?_
      refine AW.cond (by simp (maxSteps := 1000000) only [go_sem, hs2, hnm] <;> exact rfl) (fun hc2 => ?_) (fun hc2 => ?_)
      · try simp only [decide_eq_true_eq, decide_eq_false_iff_not, Bool.or_eq_true, Bool.or_eq_false_iff, Bool.and_eq_true, Bool.and_eq_false_imp, Bool.not_eq_true', Bool.not_eq_false'] at hc2
        refine AW.regR rfl (by simp (maxSteps := 1000000) only [go_sem, hs2, hnm] <;> exact rfl) (by first | (simp (disch := omega) only [go_sem, w64, wU, hs2, hnm] <;> exact rfl) | exact rfl) ?_
        refine icK.finQ rfl (by simp (maxSteps := 1000000) only [go_sem, hs2, hnm] <;> exact rfl) (by simp (maxSteps := 1000000) only [go_sem, hs2, hnm] <;> exact rfl) ?_
        refine AWL.runG (by simp (maxSteps := 1000000) only [go_sem, hs2, hnm] <;> exact rfl) ?_
        refine AWL.fin (by first | (simp (disch := omega) only [go_sem, w64, wU, hs2, hnm] <;> exact rfl) | exact rfl) ?_
        refine icK.finQ rfl (by simp (maxSteps := 1000000) only [go_sem, hs2, hnm] <;> exact rfl) (by simp (maxSteps := 1000000) only [go_sem, hs2, hnm] <;> exact rfl) ?_
        refine AWL.runG (by simp (maxSteps := 1000000) only [go_sem, hs2, hnm] <;> exact rfl) ?_
        refine AWL.fin (by first | (simp (disch := omega) only [go_sem, w64, wU, hs2, hnm] <;> exact rfl) | exact rfl) ?_
        refine retK.fin rfl (by simp (maxSteps := 1000000) only [go_sem, hs2, hnm] <;> exact rfl) (by simp (maxSteps := 1000000) only [go_sem, hs2, hnm] <;> exact rfl) (.of ?_)
        exact congrArg PV.bool (decide_eq_false (fun q => by unfold namS InR8 at q; omega)).symm
      · try simp only [decide_eq_true_eq, decide_eq_false_iff_not, Bool.or_eq_true, Bool.or_eq_false_iff, Bool.and_eq_true, Bool.and_eq_false_imp, Bool.not_eq_true', Bool.not_eq_false'] at hc2
        refine AW.skip ?_
        show AW _ _ _ _ _
        refine AW.regR1 rfl (by simp (maxSteps := 1000000) only [go_sem, hs2, hnm] <;> exact rfl) (by first | (simp (disch := omega) only [go_sem, w64, wU, hs2, hnm] <;> exact rfl) | exact rfl) ?_
        show ARounds _ _ _ _ _ _
        refine ARounds.mk ?_
        refine AW.regR rfl (by simp (maxSteps := 1000000) only [go_sem, hs2, hnm] <;> exact rfl) (by first | (simp (disch := omega) only [go_sem, w64, wU, hs2, hnm] <;> exact rfl) | exact rfl) ?_
        refine AW.seq ?_
        refine AW.condT (by simp (maxSteps := 1000000) only [go_sem, hs2, hnm] <;> exact rfl) ?_
        refine AW.skip ?_
        show AW _ _ _ _ _
        refine AW.seq ?_
        refine AW.block ?_
        refine AW.regR rfl (by simp (maxSteps := 1000000) only [go_sem, hs2, hnm] <;> exact rfl) (by first | (simp (disch := omega) only [go_sem, w64, wU, hs2, hnm] <;> exact rfl) | exact rfl) ?_
        refine AW.regL ?_
        refine AWL.runG (by simp (maxSteps := 1000000) only [go_sem, hs2, hnm] <;> exact rfl) ?_
        refine AWL.icall2 rfl (by simp (maxSteps := 1000000) only [go_sem, hs2, hnm] <;> exact rfl) (by simp (maxSteps := 1000000) only [go_sem, hs2, hnm] <;> exact rfl) Try.call90 Try.func90 rfl Try.ntmps90 Try.results90 (by simp (maxSteps := 1000000) only [go_sem, hs2, hnm] <;> exact rfl) (by simp (maxSteps := 1000000) only [go_sem, hs2, hnm] <;> exact rfl) (fun z5 hz5 => ?_)
        refine AW.regR rfl (by simp (maxSteps := 1000000) only [go_sem, hs2, hnm] <;> exact rfl) (by first | (simp (disch := omega) only [go_sem, w64, wU, hs2, hnm] <;> exact rfl) | exact rfl) ?_
        refine AW.regR rfl (by simp (maxSteps := 1000000) only [go_sem, hs2, hnm] <;> exact rfl) (by first | (simp (disch := omega) only [go_sem, w64, wU, hs2, hnm] <;> exact rfl) | exact rfl) ?_
        refine icK.finQ rfl (by simp (maxSteps := 1000000) only [go_sem, hs2, hnm] <;> exact rfl) (by simp (maxSteps := 1000000) only [go_sem, hs2, hnm] <;> exact rfl) ?_
        refine AWL.fin (by first | (simp (disch := omega) only [go_sem, w64, wU, hs2, hnm] <;> exact rfl) | exact rfl) ?_
        refine AW.cond (by simp (maxSteps := 1000000) only [go_sem, hs2, hnm] <;> exact rfl) (fun hc3 => ?_) (fun hc3 => ?_)
        · try simp only [decide_eq_true_eq, decide_eq_false_iff_not, Bool.or_eq_true, Bool.or_eq_false_iff, Bool.and_eq_true, Bool.and_eq_false_imp, Bool.not_eq_true', Bool.not_eq_false'] at hc3
          refine AW.regR rfl (by simp (maxSteps := 1000000) only [go_sem, hs2, hnm] <;> exact rfl) (by first | (simp (disch := omega) only [go_sem, w64, wU, hs2, hnm] <;> exact rfl) | exact rfl) ?_
          refine icK.finQ rfl (by simp (maxSteps := 1000000) only [go_sem, hs2, hnm] <;> exact rfl) (by simp (maxSteps := 1000000) only [go_sem, hs2, hnm] <;> exact rfl) ?_
          refine AWL.runG (by simp (maxSteps := 1000000) only [go_sem, hs2, hnm] <;> exact rfl) ?_
          refine AWL.fin (by first | (simp (disch := omega) only [go_sem, w64, wU, hs2, hnm] <;> exact rfl) | exact rfl) ?_
          refine icK.finQ rfl (by simp (maxSteps := 1000000) only [go_sem, hs2, hnm] <;> exact rfl) (by simp (maxSteps := 1000000) only [go_sem, hs2, hnm] <;> exact rfl) ?_
          refine AWL.runG (by simp (maxSteps := 1000000) only [go_sem, hs2, hnm] <;> exact rfl) ?_
          refine AWL.fin (by first | (simp (disch := omega) only [go_sem, w64, wU, hs2, hnm] <;> exact rfl) | exact rfl) ?_
          refine retK.fin rfl (by simp (maxSteps := 1000000) only [go_sem, hs2, hnm] <;> exact rfl) (by simp (maxSteps := 1000000) only [go_sem, hs2, hnm] <;> exact rfl) (.of ?_)
          exact congrArg PV.bool (decide_eq_false (fun q => by unfold namS InR8 at q; omega)).symm
        · try simp only [decide_eq_true_eq, decide_eq_false_iff_not, Bool.or_eq_true, Bool.or_eq_false_iff, Bool.and_eq_true, Bool.and_eq_false_imp, Bool.not_eq_true', Bool.not_eq_false'] at hc3
          refine AW.skip ?_
          show AW _ _ _ _ _
          refine AW.regR1 rfl (by simp (maxSteps := 1000000) only [go_sem, hs2, hnm] <;> exact rfl) (by first | (simp (disch := omega) only [go_sem, w64, wU, hs2, hnm] <;> exact rfl) | exact rfl) ?_
          show ARounds _ _ _ _ _ _
          refine ARounds.mk ?_
          refine AW.regR rfl (by simp (maxSteps := 1000000) only [go_sem, hs2, hnm] <;> exact rfl) (by first | (simp (disch := omega) only [go_sem, w64, wU, hs2, hnm] <;> exact rfl) | exact rfl) ?_
          refine AW.seq ?_
          refine AW.condF (by simp (maxSteps := 1000000) only [go_sem, hs2, hnm] <;> exact rfl) ?_
          refine AW.exit ?_
          show AW _ _ _ _ _
          refine AW.regR rfl (by simp (maxSteps := 1000000) only [go_sem, hs2, hnm] <;> exact rfl) (by first | (simp (disch := omega) only [go_sem, w64, wU, hs2, hnm] <;> exact rfl) | exact rfl) ?_
          refine icK.finQ rfl (by simp (maxSteps := 1000000) only [go_sem, hs2, hnm] <;> exact rfl) (by simp (maxSteps := 1000000) only [go_sem, hs2, hnm] <;> exact rfl) ?_
          refine AWL.runG (by simp (maxSteps := 1000000) only [go_sem, hs2, hnm] <;> exact rfl) ?_
          refine AWL.fin (by first | (simp (disch := omega) only [go_sem, w64, wU, hs2, hnm] <;> exact rfl) | exact rfl) ?_
          refine icK.finQ rfl (by simp (maxSteps := 1000000) only [go_sem, hs2, hnm] <;> exact rfl) (by simp (maxSteps := 1000000) only [go_sem, hs2, hnm] <;> exact rfl) ?_
          refine AWL.runG (by simp (maxSteps := 1000000) only [go_sem, hs2, hnm] <;> exact rfl) ?_
          refine AWL.fin (by first | (simp (disch := omega) only [go_sem, w64, wU, hs2, hnm] <;> exact rfl) | exact rfl) ?_
          refine retK.fin rfl (by simp (maxSteps := 1000000) only [go_sem, hs2, hnm] <;> exact rfl) (by simp (maxSteps := 1000000) only [go_sem, hs2, hnm] <;> exact rfl) (.of ?_)
          exact congrArg PV.bool (decide_eq_true (by unfold namS InR8; omega)).symm
  · have hnm : nameS op = ⟨#[]⟩ := name_out (by omega)
    have hb2 := decide_eq_false hs2
    refine AW.regL ?_
    refine AWL.runG (by simp (maxSteps := 1000000) only [go_sem, hb2, hnm] <;> exact rfl) ?_
    refine AWL.pcall2 (c91 op) (by simp (maxSteps := 1000000) only [go_sem, hb2, hnm] <;> exact rfl) rfl (by simp (maxSteps := 1000000) only [go_sem, hb2, hnm] <;> exact rfl) (by simp (maxSteps := 1000000) only [go_sem, hb2, hnm] <;> exact rfl) ?_
    refine AWL.runG (by simp (maxSteps := 1000000) only [go_sem, hb2, hnm] <;> exact rfl) ?_
    refine AWL.fin (by first | (simp (disch := omega) only [go_sem, w64, wU, hb2, hnm] <;> exact rfl) | exact rfl) ?_
    refine retK.fin rfl (by simp (maxSteps := 1000000) only [go_sem, hb2, hnm] <;> exact rfl) (by simp (maxSteps := 1000000) only [go_sem, hb2, hnm] <;> exact rfl) (.of ?_)
    exact congrArg PV.bool (decide_eq_false (fun q => by unfold namS InR8 at q; omega)).symm
theorem c30 (op a b c m : Int) : PC Try.prog 30 [.agg [.int .i64 op, .int .i64 a, .int .i64 b, .int .i64 c, .int .u64 m]] (.agg (bR (usesS op a b c))) := by
  refine PC.start 43 Try.call30 Try.func30 rfl Try.ntmps30 Try.results30 (by simp only [go_sem]; exact rfl) fun z hz => ?_
  refine AW.regR rfl (by simp (maxSteps := 1000000) only [go_sem] <;> exact rfl) (by first | (simp (disch := omega) only [go_sem, w64, wU] <;> exact rfl) | exact rfl) ?_
  refine AW.seq ?_
  refine AW.regS rfl ?_
  refine ARN.run1 (by simp (maxSteps := 1000000) only [go_sem] <;> exact rfl) ?_
  refine ARN.pcall (fun hp => c61 op a b c m) rfl (by simp (maxSteps := 1000000) only [go_sem] <;> exact rfl) (by simp only [go_sem]) (by simp (maxSteps := 1000000) only [go_sem] <;> exact rfl) ?_
  refine ARN.run1 (by simp (maxSteps := 1000000) only [go_sem] <;> exact rfl) ?_
  refine ARN.fin (by first | (simp (disch := omega) only [go_sem, w64, wU] <;> exact rfl) | exact rfl) ?_
  refine AW.cond (by simp (maxSteps := 1000000) only [go_sem] <;> exact rfl) (fun hc1 => ?_) (fun hc1 => ?_)
  · try simp only [decide_eq_true_eq, decide_eq_false_iff_not, Bool.or_eq_true, Bool.or_eq_false_iff, Bool.and_eq_true, Bool.and_eq_false_imp, Bool.not_eq_true', Bool.not_eq_false'] at hc1
    refine AW.regR rfl (by simp (maxSteps := 1000000) only [go_sem] <;> exact rfl) (by first | (simp (disch := omega) only [go_sem, w64, wU] <;> exact rfl) | exact rfl) ?_
    refine retK.fin rfl (by simp (maxSteps := 1000000) only [go_sem] <;> exact rfl) (by simp (maxSteps := 1000000) only [go_sem] <;> exact rfl) (.of ?_)
    unfold usesS; rw [if_neg (by simpa using hc1)]; rfl
  · try simp only [decide_eq_true_eq, decide_eq_false_iff_not, Bool.or_eq_true, Bool.or_eq_false_iff, Bool.and_eq_true, Bool.and_eq_false_imp, Bool.not_eq_true', Bool.not_eq_false'] at hc1
    have hnm : namS op a b c := by simpa using hc1
    have ha : InR8 a := hnm.2.2.1
    have hb : InR8 b := hnm.2.2.2.1
    have hcr : InR8 c := hnm.2.2.2.2
    refine AW.skip ?_
    show AW _ _ _ _ _
    refine AW.seq ?_
    refine AW.regR rfl (by simp (maxSteps := 1000000) only [go_sem, hnm, ha, hb, hcr] <;> exact rfl) (by first | (simp (disch := omega) only [go_sem, w64, wU, hnm, ha, hb, hcr] <;> exact rfl) | exact rfl) ?_
    refine AW.block ?_
    refine AW.regR rfl (by simp (maxSteps := 1000000) only [go_sem, hnm, ha, hb, hcr] <;> exact rfl) (by first | (simp (disch := omega) only [go_sem, w64, wU, hnm, ha, hb, hcr] <;> exact rfl) | exact rfl) ?_
    refine AW.cond (by simp (maxSteps := 1000000) only [go_sem, hnm, ha, hb, hcr] <;> exact rfl) (fun hc2 => ?_) (fun hc2 => ?_)
    · try simp only [decide_eq_true_eq, decide_eq_false_iff_not, Bool.or_eq_true, Bool.or_eq_false_iff, Bool.and_eq_true, Bool.and_eq_false_imp, Bool.not_eq_true', Bool.not_eq_false'] at hc2
      refine AW.regS rfl ?_
      refine ARN.run1 (by simp (maxSteps := 1000000) only [go_sem, hnm, ha, hb, hcr] <;> exact rfl) ?_
      refine ARN.pcall (fun hp => c62b b c hb hcr) rfl (by simp (maxSteps := 1000000) only [go_sem, hnm, ha, hb, hcr] <;> exact rfl) (by simp only [go_sem]) (by simp (maxSteps := 1000000) only [go_sem, hnm, ha, hb, hcr] <;> exact rfl) ?_
      refine ARN.run1 (by simp (maxSteps := 1000000) only [go_sem, hnm, ha, hb, hcr] <;> exact rfl) ?_
      refine ARN.fin (by first | (simp (disch := omega) only [go_sem, w64, wU, hnm, ha, hb, hcr] <;> exact rfl) | exact rfl) ?_
      refine retK.fin rfl (by simp (maxSteps := 1000000) only [go_sem, hnm, ha, hb, hcr] <;> exact rfl) (by simp (maxSteps := 1000000) only [go_sem, hnm, ha, hb, hcr] <;> exact rfl) (.of ?_)
      unfold usesS; rw [if_pos hnm, if_neg (by omega), if_pos hc2]; rfl
    · try simp only [decide_eq_true_eq, decide_eq_false_iff_not, Bool.or_eq_true, Bool.or_eq_false_iff, Bool.and_eq_true, Bool.and_eq_false_imp, Bool.not_eq_true', Bool.not_eq_false'] at hc2
      refine AW.joinVh (α := (Bool)) (fun (b1 : (Bool)) => [(17, .pv (.bool b1))]) (fun (b1 : (Bool)) => ((b1 = true ↔ op = 8 ∨ op = 11))) ?_ ?_
      · skip
        refine AW.regR rfl (by simp (maxSteps := 1000000) only [go_sem, hnm, ha, hb, hcr] <;> exact rfl) (by first | (simp (disch := omega) only [go_sem, w64, wU, hnm, ha, hb, hcr] <;> exact rfl) | exact rfl) ?_
        refine AW.cond (by simp (maxSteps := 1000000) only [go_sem, hnm, ha, hb, hcr] <;> exact rfl) (fun hc3 => ?_) (fun hc3 => ?_)
        · try simp only [decide_eq_true_eq, decide_eq_false_iff_not, Bool.or_eq_true, Bool.or_eq_false_iff, Bool.and_eq_true, Bool.and_eq_false_imp, Bool.not_eq_true', Bool.not_eq_false'] at hc3
          refine AW.skip ?_
          refine ⟨(decide (op = 8)), ?_, ?_⟩
          · exact by simp [hc3]
          · refine Wk.sub ?_
            simp (maxSteps := 1000000) (disch := omega) only [go_sem, w64, wU, hnm, ha, hb, hcr]
        · try simp only [decide_eq_true_eq, decide_eq_false_iff_not, Bool.or_eq_true, Bool.or_eq_false_iff, Bool.and_eq_true, Bool.and_eq_false_imp, Bool.not_eq_true', Bool.not_eq_false'] at hc3
          refine AW.regR1 rfl (by simp (maxSteps := 1000000) only [go_sem, hnm, ha, hb, hcr] <;> exact rfl) (by first | (simp (disch := omega) only [go_sem, w64, wU, hnm, ha, hb, hcr] <;> exact rfl) | exact rfl) ?_
          refine ⟨(decide (op = 11)), ?_, ?_⟩
          · exact by simp [hc3]
          · refine Wk.sub ?_
            simp (maxSteps := 1000000) (disch := omega) only [go_sem, w64, wU, hnm, ha, hb, hcr]
      · rintro b1 hF _ ht
        simp only [updT, go_sem] at ht
        subst ht
        have q1 := hF
        refine AW.cond (by simp (maxSteps := 1000000) only [go_sem, hnm, ha, hb, hcr] <;> exact rfl) (fun hc4 => ?_) (fun hc4 => ?_)
        · try simp only [decide_eq_true_eq, decide_eq_false_iff_not, Bool.or_eq_true, Bool.or_eq_false_iff, Bool.and_eq_true, Bool.and_eq_false_imp, Bool.not_eq_true', Bool.not_eq_false'] at hc4
          have o4 : (op = 8 ∨ op = 11) := q1.1 hc4
          refine AW.regS rfl ?_
          refine ARN.run1 (by simp (maxSteps := 1000000) only [go_sem, hnm, ha, hb, hcr, o4] <;> exact rfl) ?_
          refine ARN.pcall (fun hp => c62b a b ha hb) rfl (by simp (maxSteps := 1000000) only [go_sem, hnm, ha, hb, hcr, o4] <;> exact rfl) (by simp only [go_sem]) (by simp (maxSteps := 1000000) only [go_sem, hnm, ha, hb, hcr, o4] <;> exact rfl) ?_
          refine ARN.run1 (by simp (maxSteps := 1000000) only [go_sem, hnm, ha, hb, hcr, o4] <;> exact rfl) ?_
          refine ARN.fin (by first | (simp (disch := omega) only [go_sem, w64, wU, hnm, ha, hb, hcr, o4] <;> exact rfl) | exact rfl) ?_
          refine retK.fin rfl (by simp (maxSteps := 1000000) only [go_sem, hnm, ha, hb, hcr, o4] <;> exact rfl) (by simp (maxSteps := 1000000) only [go_sem, hnm, ha, hb, hcr, o4] <;> exact rfl) (.of ?_)
          unfold usesS; rw [if_pos hnm, if_neg (by omega), if_neg (by omega), if_neg (by omega), if_pos o4]; rfl
        · try simp only [decide_eq_true_eq, decide_eq_false_iff_not, Bool.or_eq_true, Bool.or_eq_false_iff, Bool.and_eq_true, Bool.and_eq_false_imp, Bool.not_eq_true', Bool.not_eq_false'] at hc4
          have n4 : ¬ (op = 8 ∨ op = 11) := fun h => by have := q1.2 h; simp_all
          refine AW.joinVh (α := (Bool)) (fun (b2 : (Bool)) => [(26, .pv (.bool b2))]) (fun (b2 : (Bool)) => ((b2 = true ↔ op = 2 ∨ op = 4 ∨ op = 7 ∨ op = 10))) ?_ ?_
          · skip
            refine AW.regR rfl (by simp (maxSteps := 1000000) only [go_sem, hnm, ha, hb, hcr, n4] <;> exact rfl) (by first | (simp (disch := omega) only [go_sem, w64, wU, hnm, ha, hb, hcr, n4] <;> exact rfl) | exact rfl) ?_
            refine AW.cond (by simp (maxSteps := 1000000) only [go_sem, hnm, ha, hb, hcr, n4] <;> exact rfl) (fun hc5 => ?_) (fun hc5 => ?_)
            · try simp only [decide_eq_true_eq, decide_eq_false_iff_not, Bool.or_eq_true, Bool.or_eq_false_iff, Bool.and_eq_true, Bool.and_eq_false_imp, Bool.not_eq_true', Bool.not_eq_false'] at hc5
              refine AW.skip ?_
              refine ⟨(decide (op = 2)), ?_, ?_⟩
              · exact by simp [hc5]
              · refine Wk.sub ?_
                simp (maxSteps := 1000000) (disch := omega) only [go_sem, w64, wU, hnm, ha, hb, hcr, n4]
            · try simp only [decide_eq_true_eq, decide_eq_false_iff_not, Bool.or_eq_true, Bool.or_eq_false_iff, Bool.and_eq_true, Bool.and_eq_false_imp, Bool.not_eq_true', Bool.not_eq_false'] at hc5
              refine AW.regR rfl (by simp (maxSteps := 1000000) only [go_sem, hnm, ha, hb, hcr, n4] <;> exact rfl) (by first | (simp (disch := omega) only [go_sem, w64, wU, hnm, ha, hb, hcr, n4] <;> exact rfl) | exact rfl) ?_
              refine AW.cond (by simp (maxSteps := 1000000) only [go_sem, hnm, ha, hb, hcr, n4] <;> exact rfl) (fun hc6 => ?_) (fun hc6 => ?_)
              · try simp only [decide_eq_true_eq, decide_eq_false_iff_not, Bool.or_eq_true, Bool.or_eq_false_iff, Bool.and_eq_true, Bool.and_eq_false_imp, Bool.not_eq_true', Bool.not_eq_false'] at hc6
                refine AW.skip ?_
                refine ⟨(decide (op = 4)), ?_, ?_⟩
                · exact by simp [hc5, hc6]
                · refine Wk.sub ?_
                  simp (maxSteps := 1000000) (disch := omega) only [go_sem, w64, wU, hnm, ha, hb, hcr, n4]
              · try simp only [decide_eq_true_eq, decide_eq_false_iff_not, Bool.or_eq_true, Bool.or_eq_false_iff, Bool.and_eq_true, Bool.and_eq_false_imp, Bool.not_eq_true', Bool.not_eq_false'] at hc6
                refine AW.regR rfl (by simp (maxSteps := 1000000) only [go_sem, hnm, ha, hb, hcr, n4] <;> exact rfl) (by first | (simp (disch := omega) only [go_sem, w64, wU, hnm, ha, hb, hcr, n4] <;> exact rfl) | exact rfl) ?_
                refine AW.cond (by simp (maxSteps := 1000000) only [go_sem, hnm, ha, hb, hcr, n4] <;> exact rfl) (fun hc7 => ?_) (fun hc7 => ?_)
                · try simp only [decide_eq_true_eq, decide_eq_false_iff_not, Bool.or_eq_true, Bool.or_eq_false_iff, Bool.and_eq_true, Bool.and_eq_false_imp, Bool.not_eq_true', Bool.not_eq_false'] at hc7
                  refine AW.skip ?_
                  refine ⟨(decide (op = 7)), ?_, ?_⟩
                  · exact by simp [hc5, hc6, hc7]
                  · refine Wk.sub ?_
                    simp (maxSteps := 1000000) (disch := omega) only [go_sem, w64, wU, hnm, ha, hb, hcr, n4]
                · try simp only [decide_eq_true_eq, decide_eq_false_iff_not, Bool.or_eq_true, Bool.or_eq_false_iff, Bool.and_eq_true, Bool.and_eq_false_imp, Bool.not_eq_true', Bool.not_eq_false'] at hc7
                  refine AW.regR1 rfl (by simp (maxSteps := 1000000) only [go_sem, hnm, ha, hb, hcr, n4] <;> exact rfl) (by first | (simp (disch := omega) only [go_sem, w64, wU, hnm, ha, hb, hcr, n4] <;> exact rfl) | exact rfl) ?_
                  refine ⟨(decide (op = 10)), ?_, ?_⟩
                  · exact by simp [hc5, hc6, hc7]
                  · refine Wk.sub ?_
                    simp (maxSteps := 1000000) (disch := omega) only [go_sem, w64, wU, hnm, ha, hb, hcr, n4]
          · rintro b2 hF _ ht
            simp only [updT, go_sem] at ht
            subst ht
            have q2 := hF
            refine AW.cond (by simp (maxSteps := 1000000) only [go_sem, hnm, ha, hb, hcr, n4] <;> exact rfl) (fun hc8 => ?_) (fun hc8 => ?_)
            · try simp only [decide_eq_true_eq, decide_eq_false_iff_not, Bool.or_eq_true, Bool.or_eq_false_iff, Bool.and_eq_true, Bool.and_eq_false_imp, Bool.not_eq_true', Bool.not_eq_false'] at hc8
              have o8 : (op = 2 ∨ op = 4 ∨ op = 7 ∨ op = 10) := q2.1 hc8
              refine AW.regS rfl ?_
              refine ARN.run1 (by simp (maxSteps := 1000000) only [go_sem, hnm, ha, hb, hcr, n4, o8] <;> exact rfl) ?_
              refine ARN.pcall (fun hp => c62a b hb) rfl (by simp (maxSteps := 1000000) only [go_sem, hnm, ha, hb, hcr, n4, o8] <;> exact rfl) (by simp only [go_sem]) (by simp (maxSteps := 1000000) only [go_sem, hnm, ha, hb, hcr, n4, o8] <;> exact rfl) ?_
              refine ARN.run1 (by simp (maxSteps := 1000000) only [go_sem, hnm, ha, hb, hcr, n4, o8] <;> exact rfl) ?_
              refine ARN.fin (by first | (simp (disch := omega) only [go_sem, w64, wU, hnm, ha, hb, hcr, n4, o8] <;> exact rfl) | exact rfl) ?_
              refine retK.fin rfl (by simp (maxSteps := 1000000) only [go_sem, hnm, ha, hb, hcr, n4, o8] <;> exact rfl) (by simp (maxSteps := 1000000) only [go_sem, hnm, ha, hb, hcr, n4, o8] <;> exact rfl) (.of ?_)
              unfold usesS; rw [if_pos hnm, if_pos o8]; rfl
            · try simp only [decide_eq_true_eq, decide_eq_false_iff_not, Bool.or_eq_true, Bool.or_eq_false_iff, Bool.and_eq_true, Bool.and_eq_false_imp, Bool.not_eq_true', Bool.not_eq_false'] at hc8
              have n8 : ¬ (op = 2 ∨ op = 4 ∨ op = 7 ∨ op = 10) := fun h => by have := q2.2 h; simp_all
              refine AW.joinVh (α := (Bool)) (fun (b3 : (Bool)) => [(35, .pv (.bool b3))]) (fun (b3 : (Bool)) => ((b3 = true ↔ op = 6 ∨ op = 14))) ?_ ?_
              · skip
                refine AW.regR rfl (by simp (maxSteps := 1000000) only [go_sem, hnm, ha, hb, hcr, n4, n8] <;> exact rfl) (by first | (simp (disch := omega) only [go_sem, w64, wU, hnm, ha, hb, hcr, n4, n8] <;> exact rfl) | exact rfl) ?_
                refine AW.cond (by simp (maxSteps := 1000000) only [go_sem, hnm, ha, hb, hcr, n4, n8] <;> exact rfl) (fun hc9 => ?_) (fun hc9 => ?_)
                · try simp only [decide_eq_true_eq, decide_eq_false_iff_not, Bool.or_eq_true, Bool.or_eq_false_iff, Bool.and_eq_true, Bool.and_eq_false_imp, Bool.not_eq_true', Bool.not_eq_false'] at hc9
                  refine AW.skip ?_
                  refine ⟨(decide (op = 6)), ?_, ?_⟩
                  · exact by simp [hc9]
                  · refine Wk.sub ?_
                    simp (maxSteps := 1000000) (disch := omega) only [go_sem, w64, wU, hnm, ha, hb, hcr, n4, n8]
                · try simp only [decide_eq_true_eq, decide_eq_false_iff_not, Bool.or_eq_true, Bool.or_eq_false_iff, Bool.and_eq_true, Bool.and_eq_false_imp, Bool.not_eq_true', Bool.not_eq_false'] at hc9
                  refine AW.regR1 rfl (by simp (maxSteps := 1000000) only [go_sem, hnm, ha, hb, hcr, n4, n8] <;> exact rfl) (by first | (simp (disch := omega) only [go_sem, w64, wU, hnm, ha, hb, hcr, n4, n8] <;> exact rfl) | exact rfl) ?_
                  refine ⟨(decide (op = 14)), ?_, ?_⟩
                  · exact by simp [hc9]
                  · refine Wk.sub ?_
                    simp (maxSteps := 1000000) (disch := omega) only [go_sem, w64, wU, hnm, ha, hb, hcr, n4, n8]
              · rintro b3 hF _ ht
                simp only [updT, go_sem] at ht
                subst ht
                have q3 := hF
                refine AW.cond (by simp (maxSteps := 1000000) only [go_sem, hnm, ha, hb, hcr, n4, n8] <;> exact rfl) (fun hc10 => ?_) (fun hc10 => ?_)
                · try simp only [decide_eq_true_eq, decide_eq_false_iff_not, Bool.or_eq_true, Bool.or_eq_false_iff, Bool.and_eq_true, Bool.and_eq_false_imp, Bool.not_eq_true', Bool.not_eq_false'] at hc10
                  have o10 : (op = 6 ∨ op = 14) := q3.1 hc10
                  refine AW.regS rfl ?_
                  refine ARN.run1 (by simp (maxSteps := 1000000) only [go_sem, hnm, ha, hb, hcr, n4, n8, o10] <;> exact rfl) ?_
                  refine ARN.pcall (fun hp => c62a a ha) rfl (by simp (maxSteps := 1000000) only [go_sem, hnm, ha, hb, hcr, n4, n8, o10] <;> exact rfl) (by simp only [go_sem]) (by simp (maxSteps := 1000000) only [go_sem, hnm, ha, hb, hcr, n4, n8, o10] <;> exact rfl) ?_
                  refine ARN.run1 (by simp (maxSteps := 1000000) only [go_sem, hnm, ha, hb, hcr, n4, n8, o10] <;> exact rfl) ?_
                  refine ARN.fin (by first | (simp (disch := omega) only [go_sem, w64, wU, hnm, ha, hb, hcr, n4, n8, o10] <;> exact rfl) | exact rfl) ?_
                  refine retK.fin rfl (by simp (maxSteps := 1000000) only [go_sem, hnm, ha, hb, hcr, n4, n8, o10] <;> exact rfl) (by simp (maxSteps := 1000000) only [go_sem, hnm, ha, hb, hcr, n4, n8, o10] <;> exact rfl) (.of ?_)
                  unfold usesS; rw [if_pos hnm, if_neg n8, if_neg hc2, if_pos o10]; rfl
                · try simp only [decide_eq_true_eq, decide_eq_false_iff_not, Bool.or_eq_true, Bool.or_eq_false_iff, Bool.and_eq_true, Bool.and_eq_false_imp, Bool.not_eq_true', Bool.not_eq_false'] at hc10
                  have n10 : ¬ (op = 6 ∨ op = 14) := fun h => by have := q3.2 h; simp_all
                  refine AW.skip ?_
                  show AW _ _ _ _ _
                  refine AW.regR rfl (by simp (maxSteps := 1000000) only [go_sem, hnm, ha, hb, hcr, n4, n8, n10] <;> exact rfl) (by first | (simp (disch := omega) only [go_sem, w64, wU, hnm, ha, hb, hcr, n4, n8, n10] <;> exact rfl) | exact rfl) ?_
                  refine retK.fin rfl (by simp (maxSteps := 1000000) only [go_sem, hnm, ha, hb, hcr, n4, n8, n10] <;> exact rfl) (by simp (maxSteps := 1000000) only [go_sem, hnm, ha, hb, hcr, n4, n8, n10] <;> exact rfl) (.of ?_)
                  unfold usesS; rw [if_pos hnm, if_neg n8, if_neg hc2, if_neg n10, if_neg n4]; rfl
theorem c31 (op a b c m : Int) : PC Try.prog 31 [.agg [.int .i64 op, .int .i64 a, .int .i64 b, .int .i64 c, .int .u64 m]] (.agg (bR (usesS op a b c))) := by
  refine PC.start 42 Try.call31 Try.func31 rfl Try.ntmps31 Try.results31 (by simp only [go_sem]; exact rfl) fun z hz => ?_
  refine AW.regR rfl (by simp (maxSteps := 1000000) only [go_sem] <;> exact rfl) (by first | (simp (disch := omega) only [go_sem, w64, wU] <;> exact rfl) | exact rfl) ?_
  refine AW.regR rfl (by simp (maxSteps := 1000000) only [go_sem] <;> exact rfl) (by first | (simp (disch := omega) only [go_sem, w64, wU] <;> exact rfl) | exact rfl) ?_
  refine AW.seq ?_
  refine AW.regS rfl ?_
  refine ARN.run1 (by simp (maxSteps := 1000000) only [go_sem] <;> exact rfl) ?_
  refine ARN.pcall (fun hp => c63 op a b c m) rfl (by simp (maxSteps := 1000000) only [go_sem] <;> exact rfl) (by simp only [go_sem]) (by simp (maxSteps := 1000000) only [go_sem] <;> exact rfl) ?_
  refine ARN.run1 (by simp (maxSteps := 1000000) only [go_sem] <;> exact rfl) ?_
  refine ARN.fin (by first | (simp (disch := omega) only [go_sem, w64, wU] <;> exact rfl) | exact rfl) ?_
  refine AW.cond (by simp (maxSteps := 1000000) only [go_sem] <;> exact rfl) (fun hc1 => ?_) (fun hc1 => ?_)
  · try simp only [decide_eq_true_eq, decide_eq_false_iff_not, Bool.or_eq_true, Bool.or_eq_false_iff, Bool.and_eq_true, Bool.and_eq_false_imp, Bool.not_eq_true', Bool.not_eq_false'] at hc1
    refine AW.regR rfl (by simp (maxSteps := 1000000) only [go_sem] <;> exact rfl) (by first | (simp (disch := omega) only [go_sem, w64, wU] <;> exact rfl) | exact rfl) ?_
    refine retK.fin rfl (by simp (maxSteps := 1000000) only [go_sem] <;> exact rfl) (by simp (maxSteps := 1000000) only [go_sem] <;> exact rfl) (.of ?_)
    unfold usesS; rw [if_neg (by simpa using hc1)]; rfl
  · try simp only [decide_eq_true_eq, decide_eq_false_iff_not, Bool.or_eq_true, Bool.or_eq_false_iff, Bool.and_eq_true, Bool.and_eq_false_imp, Bool.not_eq_true', Bool.not_eq_false'] at hc1
    have hnm : namS op a b c := by simpa using hc1
    have ha : InR8 a := hnm.2.2.1
    have hb : InR8 b := hnm.2.2.2.1
    have hcr : InR8 c := hnm.2.2.2.2
    refine AW.skip ?_
    show AW _ _ _ _ _
    refine AW.seq ?_
    refine AW.regR rfl (by simp (maxSteps := 1000000) only [go_sem, hnm, ha, hb, hcr] <;> exact rfl) (by first | (simp (disch := omega) only [go_sem, w64, wU, hnm, ha, hb, hcr] <;> exact rfl) | exact rfl) ?_
    refine AW.block ?_
    refine AW.joinVh (α := (Bool)) (fun (b1 : (Bool)) => [(10, .pv (.bool b1))]) (fun (b1 : (Bool)) => ((b1 = true ↔ op = 2 ∨ op = 4 ∨ op = 7 ∨ op = 10))) ?_ ?_
    · skip
      refine AW.regR rfl (by simp (maxSteps := 1000000) only [go_sem, hnm, ha, hb, hcr] <;> exact rfl) (by first | (simp (disch := omega) only [go_sem, w64, wU, hnm, ha, hb, hcr] <;> exact rfl) | exact rfl) ?_
      refine AW.cond (by simp (maxSteps := 1000000) only [go_sem, hnm, ha, hb, hcr] <;> exact rfl) (fun hc2 => ?_) (fun hc2 => ?_)
      · try simp only [decide_eq_true_eq, decide_eq_false_iff_not, Bool.or_eq_true, Bool.or_eq_false_iff, Bool.and_eq_true, Bool.and_eq_false_imp, Bool.not_eq_true', Bool.not_eq_false'] at hc2
        refine AW.skip ?_
        refine ⟨(decide (op = 2)), ?_, ?_⟩
        · exact by simp [hc2]
        · refine Wk.sub ?_
          simp (maxSteps := 1000000) (disch := omega) only [go_sem, w64, wU, hnm, ha, hb, hcr]
      · try simp only [decide_eq_true_eq, decide_eq_false_iff_not, Bool.or_eq_true, Bool.or_eq_false_iff, Bool.and_eq_true, Bool.and_eq_false_imp, Bool.not_eq_true', Bool.not_eq_false'] at hc2
        refine AW.regR rfl (by simp (maxSteps := 1000000) only [go_sem, hnm, ha, hb, hcr] <;> exact rfl) (by first | (simp (disch := omega) only [go_sem, w64, wU, hnm, ha, hb, hcr] <;> exact rfl) | exact rfl) ?_
        refine AW.cond (by simp (maxSteps := 1000000) only [go_sem, hnm, ha, hb, hcr] <;> exact rfl) (fun hc3 => ?_) (fun hc3 => ?_)
        · try simp only [decide_eq_true_eq, decide_eq_false_iff_not, Bool.or_eq_true, Bool.or_eq_false_iff, Bool.and_eq_true, Bool.and_eq_false_imp, Bool.not_eq_true', Bool.not_eq_false'] at hc3
          refine AW.skip ?_
          refine ⟨(decide (op = 4)), ?_, ?_⟩
          · exact by simp [hc2, hc3]
          · refine Wk.sub ?_
            simp (maxSteps := 1000000) (disch := omega) only [go_sem, w64, wU, hnm, ha, hb, hcr]
        · try simp only [decide_eq_true_eq, decide_eq_false_iff_not, Bool.or_eq_true, Bool.or_eq_false_iff, Bool.and_eq_true, Bool.and_eq_false_imp, Bool.not_eq_true', Bool.not_eq_false'] at hc3
          refine AW.regR rfl (by simp (maxSteps := 1000000) only [go_sem, hnm, ha, hb, hcr] <;> exact rfl) (by first | (simp (disch := omega) only [go_sem, w64, wU, hnm, ha, hb, hcr] <;> exact rfl) | exact rfl) ?_
          refine AW.cond (by simp (maxSteps := 1000000) only [go_sem, hnm, ha, hb, hcr] <;> exact rfl) (fun hc4 => ?_) (fun hc4 => ?_)
          · try simp only [decide_eq_true_eq, decide_eq_false_iff_not, Bool.or_eq_true, Bool.or_eq_false_iff, Bool.and_eq_true, Bool.and_eq_false_imp, Bool.not_eq_true', Bool.not_eq_false'] at hc4
            refine AW.skip ?_
            refine ⟨(decide (op = 7)), ?_, ?_⟩
            · exact by simp [hc2, hc3, hc4]
            · refine Wk.sub ?_
              simp (maxSteps := 1000000) (disch := omega) only [go_sem, w64, wU, hnm, ha, hb, hcr]
          · try simp only [decide_eq_true_eq, decide_eq_false_iff_not, Bool.or_eq_true, Bool.or_eq_false_iff, Bool.and_eq_true, Bool.and_eq_false_imp, Bool.not_eq_true', Bool.not_eq_false'] at hc4
            refine AW.regR1 rfl (by simp (maxSteps := 1000000) only [go_sem, hnm, ha, hb, hcr] <;> exact rfl) (by first | (simp (disch := omega) only [go_sem, w64, wU, hnm, ha, hb, hcr] <;> exact rfl) | exact rfl) ?_
            refine ⟨(decide (op = 10)), ?_, ?_⟩
            · exact by simp [hc2, hc3, hc4]
            · refine Wk.sub ?_
              simp (maxSteps := 1000000) (disch := omega) only [go_sem, w64, wU, hnm, ha, hb, hcr]
    · rintro b1 hF _ ht
      simp only [updT, go_sem] at ht
      subst ht
      have q1 := hF
      refine AW.cond (by simp (maxSteps := 1000000) only [go_sem, hnm, ha, hb, hcr] <;> exact rfl) (fun hc5 => ?_) (fun hc5 => ?_)
      · try simp only [decide_eq_true_eq, decide_eq_false_iff_not, Bool.or_eq_true, Bool.or_eq_false_iff, Bool.and_eq_true, Bool.and_eq_false_imp, Bool.not_eq_true', Bool.not_eq_false'] at hc5
        have o5 : (op = 2 ∨ op = 4 ∨ op = 7 ∨ op = 10) := q1.1 hc5
        refine AW.regR1 rfl (by simp (maxSteps := 1000000) only [go_sem, hnm, ha, hb, hcr, o5] <;> exact rfl) (by first | (simp (disch := omega) only [go_sem, w64, wU, hnm, ha, hb, hcr, o5] <;> exact rfl) | exact rfl) ?_
        show AW _ _ _ _ _
        refine AW.regR rfl (by simp (maxSteps := 1000000) only [go_sem, hnm, ha, hb, hcr, o5] <;> exact rfl) (by first | (simp (disch := omega) only [go_sem, w64, wU, hnm, ha, hb, hcr, o5] <;> exact rfl) | exact rfl) ?_
        refine retK.fin rfl (by simp (maxSteps := 1000000) only [go_sem, hnm, ha, hb, hcr, o5] <;> exact rfl) (by simp (maxSteps := 1000000) only [go_sem, hnm, ha, hb, hcr, o5] <;> exact rfl) (.of ?_)
        unfold usesS; rw [if_pos hnm, if_pos o5]; rfl
      · try simp only [decide_eq_true_eq, decide_eq_false_iff_not, Bool.or_eq_true, Bool.or_eq_false_iff, Bool.and_eq_true, Bool.and_eq_false_imp, Bool.not_eq_true', Bool.not_eq_false'] at hc5
        have n5 : ¬ (op = 2 ∨ op = 4 ∨ op = 7 ∨ op = 10) := fun h => by have := q1.2 h; simp_all
        refine AW.regR rfl (by simp (maxSteps := 1000000) only [go_sem, hnm, ha, hb, hcr, n5] <;> exact rfl) (by first | (simp (disch := omega) only [go_sem, w64, wU, hnm, ha, hb, hcr, n5] <;> exact rfl) | exact rfl) ?_
        refine AW.cond (by simp (maxSteps := 1000000) only [go_sem, hnm, ha, hb, hcr, n5] <;> exact rfl) (fun hc6 => ?_) (fun hc6 => ?_)
        · try simp only [decide_eq_true_eq, decide_eq_false_iff_not, Bool.or_eq_true, Bool.or_eq_false_iff, Bool.and_eq_true, Bool.and_eq_false_imp, Bool.not_eq_true', Bool.not_eq_false'] at hc6
          refine AW.regR rfl (by simp (maxSteps := 1000000) only [go_sem, hnm, ha, hb, hcr, n5] <;> exact rfl) (by first | (simp (disch := omega) only [go_sem, w64, wU, hnm, ha, hb, hcr, n5] <;> exact rfl) | exact rfl) ?_
          refine AW.regR1 rfl (by simp (maxSteps := 1000000) only [go_sem, hnm, ha, hb, hcr, n5] <;> exact rfl) (by first | (simp (disch := omega) only [go_sem, w64, wU, hnm, ha, hb, hcr, n5] <;> exact rfl) | exact rfl) ?_
          show AW _ _ _ _ _
          refine AW.regR rfl (by simp (maxSteps := 1000000) only [go_sem, hnm, ha, hb, hcr, n5] <;> exact rfl) (by first | (simp (disch := omega) only [go_sem, w64, wU, hnm, ha, hb, hcr, n5] <;> exact rfl) | exact rfl) ?_
          refine retK.fin rfl (by simp (maxSteps := 1000000) only [go_sem, hnm, ha, hb, hcr, n5] <;> exact rfl) (by simp (maxSteps := 1000000) only [go_sem, hnm, ha, hb, hcr, n5] <;> exact rfl) (.of ?_)
          unfold usesS; rw [if_pos hnm, if_neg n5, if_pos hc6]; rfl
        · try simp only [decide_eq_true_eq, decide_eq_false_iff_not, Bool.or_eq_true, Bool.or_eq_false_iff, Bool.and_eq_true, Bool.and_eq_false_imp, Bool.not_eq_true', Bool.not_eq_false'] at hc6
          refine AW.joinVh (α := (Bool)) (fun (b2 : (Bool)) => [(26, .pv (.bool b2))]) (fun (b2 : (Bool)) => ((b2 = true ↔ op = 6 ∨ op = 14))) ?_ ?_
          · skip
            refine AW.regR rfl (by simp (maxSteps := 1000000) only [go_sem, hnm, ha, hb, hcr, n5] <;> exact rfl) (by first | (simp (disch := omega) only [go_sem, w64, wU, hnm, ha, hb, hcr, n5] <;> exact rfl) | exact rfl) ?_
            refine AW.cond (by simp (maxSteps := 1000000) only [go_sem, hnm, ha, hb, hcr, n5] <;> exact rfl) (fun hc7 => ?_) (fun hc7 => ?_)
            · try simp only [decide_eq_true_eq, decide_eq_false_iff_not, Bool.or_eq_true, Bool.or_eq_false_iff, Bool.and_eq_true, Bool.and_eq_false_imp, Bool.not_eq_true', Bool.not_eq_false'] at hc7
              refine AW.skip ?_
              refine ⟨(decide (op = 6)), ?_, ?_⟩
              · exact by simp [hc7]
              · refine Wk.sub ?_
                simp (maxSteps := 1000000) (disch := omega) only [go_sem, w64, wU, hnm, ha, hb, hcr, n5]
            · try simp only [decide_eq_true_eq, decide_eq_false_iff_not, Bool.or_eq_true, Bool.or_eq_false_iff, Bool.and_eq_true, Bool.and_eq_false_imp, Bool.not_eq_true', Bool.not_eq_false'] at hc7
              refine AW.regR1 rfl (by simp (maxSteps := 1000000) only [go_sem, hnm, ha, hb, hcr, n5] <;> exact rfl) (by first | (simp (disch := omega) only [go_sem, w64, wU, hnm, ha, hb, hcr, n5] <;> exact rfl) | exact rfl) ?_
              refine ⟨(decide (op = 14)), ?_, ?_⟩
              · exact by simp [hc7]
              · refine Wk.sub ?_
                simp (maxSteps := 1000000) (disch := omega) only [go_sem, w64, wU, hnm, ha, hb, hcr, n5]
          · rintro b2 hF _ ht
            simp only [updT, go_sem] at ht
            subst ht
            have q2 := hF
            refine AW.cond (by simp (maxSteps := 1000000) only [go_sem, hnm, ha, hb, hcr, n5] <;> exact rfl) (fun hc8 => ?_) (fun hc8 => ?_)
            · try simp only [decide_eq_true_eq, decide_eq_false_iff_not, Bool.or_eq_true, Bool.or_eq_false_iff, Bool.and_eq_true, Bool.and_eq_false_imp, Bool.not_eq_true', Bool.not_eq_false'] at hc8
              have o8 : (op = 6 ∨ op = 14) := q2.1 hc8
              refine AW.regR1 rfl (by simp (maxSteps := 1000000) only [go_sem, hnm, ha, hb, hcr, n5, o8] <;> exact rfl) (by first | (simp (disch := omega) only [go_sem, w64, wU, hnm, ha, hb, hcr, n5, o8] <;> exact rfl) | exact rfl) ?_
              show AW _ _ _ _ _
              refine AW.regR rfl (by simp (maxSteps := 1000000) only [go_sem, hnm, ha, hb, hcr, n5, o8] <;> exact rfl) (by first | (simp (disch := omega) only [go_sem, w64, wU, hnm, ha, hb, hcr, n5, o8] <;> exact rfl) | exact rfl) ?_
              refine retK.fin rfl (by simp (maxSteps := 1000000) only [go_sem, hnm, ha, hb, hcr, n5, o8] <;> exact rfl) (by simp (maxSteps := 1000000) only [go_sem, hnm, ha, hb, hcr, n5, o8] <;> exact rfl) (.of ?_)
              unfold usesS; rw [if_pos hnm, if_neg n5, if_neg hc6, if_pos o8]; rfl
            · try simp only [decide_eq_true_eq, decide_eq_false_iff_not, Bool.or_eq_true, Bool.or_eq_false_iff, Bool.and_eq_true, Bool.and_eq_false_imp, Bool.not_eq_true', Bool.not_eq_false'] at hc8
              have n8 : ¬ (op = 6 ∨ op = 14) := fun h => by have := q2.2 h; simp_all
              refine AW.joinVh (α := (Bool)) (fun (b3 : (Bool)) => [(32, .pv (.bool b3))]) (fun (b3 : (Bool)) => ((b3 = true ↔ op = 8 ∨ op = 11))) ?_ ?_
              · skip
                refine AW.regR rfl (by simp (maxSteps := 1000000) only [go_sem, hnm, ha, hb, hcr, n5, n8] <;> exact rfl) (by first | (simp (disch := omega) only [go_sem, w64, wU, hnm, ha, hb, hcr, n5, n8] <;> exact rfl) | exact rfl) ?_
                refine AW.cond (by simp (maxSteps := 1000000) only [go_sem, hnm, ha, hb, hcr, n5, n8] <;> exact rfl) (fun hc9 => ?_) (fun hc9 => ?_)
                · try simp only [decide_eq_true_eq, decide_eq_false_iff_not, Bool.or_eq_true, Bool.or_eq_false_iff, Bool.and_eq_true, Bool.and_eq_false_imp, Bool.not_eq_true', Bool.not_eq_false'] at hc9
                  refine AW.skip ?_
                  refine ⟨(decide (op = 8)), ?_, ?_⟩
                  · exact by simp [hc9]
                  · refine Wk.sub ?_
                    simp (maxSteps := 1000000) (disch := omega) only [go_sem, w64, wU, hnm, ha, hb, hcr, n5, n8]
                · try simp only [decide_eq_true_eq, decide_eq_false_iff_not, Bool.or_eq_true, Bool.or_eq_false_iff, Bool.and_eq_true, Bool.and_eq_false_imp, Bool.not_eq_true', Bool.not_eq_false'] at hc9
                  refine AW.regR1 rfl (by simp (maxSteps := 1000000) only [go_sem, hnm, ha, hb, hcr, n5, n8] <;> exact rfl) (by first | (simp (disch := omega) only [go_sem, w64, wU, hnm, ha, hb, hcr, n5, n8] <;> exact rfl) | exact rfl) ?_
                  refine ⟨(decide (op = 11)), ?_, ?_⟩
                  · exact by simp [hc9]
                  · refine Wk.sub ?_
                    simp (maxSteps := 1000000) (disch := omega) only [go_sem, w64, wU, hnm, ha, hb, hcr, n5, n8]
              · rintro b3 hF _ ht
                simp only [updT, go_sem] at ht
                subst ht
                have q3 := hF
                refine AW.cond (by simp (maxSteps := 1000000) only [go_sem, hnm, ha, hb, hcr, n5, n8] <;> exact rfl) (fun hc10 => ?_) (fun hc10 => ?_)
                · try simp only [decide_eq_true_eq, decide_eq_false_iff_not, Bool.or_eq_true, Bool.or_eq_false_iff, Bool.and_eq_true, Bool.and_eq_false_imp, Bool.not_eq_true', Bool.not_eq_false'] at hc10
                  have o10 : (op = 8 ∨ op = 11) := q3.1 hc10
                  refine AW.regR rfl (by simp (maxSteps := 1000000) only [go_sem, hnm, ha, hb, hcr, n5, n8, o10] <;> exact rfl) (by first | (simp (disch := omega) only [go_sem, w64, wU, hnm, ha, hb, hcr, n5, n8, o10] <;> exact rfl) | exact rfl) ?_
                  refine AW.regR1 rfl (by simp (maxSteps := 1000000) only [go_sem, hnm, ha, hb, hcr, n5, n8, o10] <;> exact rfl) (by first | (simp (disch := omega) only [go_sem, w64, wU, hnm, ha, hb, hcr, n5, n8, o10] <;> exact rfl) | exact rfl) ?_
                  show AW _ _ _ _ _
                  refine AW.regR rfl (by simp (maxSteps := 1000000) only [go_sem, hnm, ha, hb, hcr, n5, n8, o10] <;> exact rfl) (by first | (simp (disch := omega) only [go_sem, w64, wU, hnm, ha, hb, hcr, n5, n8, o10] <;> exact rfl) | exact rfl) ?_
                  refine retK.fin rfl (by simp (maxSteps := 1000000) only [go_sem, hnm, ha, hb, hcr, n5, n8, o10] <;> exact rfl) (by simp (maxSteps := 1000000) only [go_sem, hnm, ha, hb, hcr, n5, n8, o10] <;> exact rfl) (.of ?_)
                  unfold usesS; rw [if_pos hnm, if_neg n5, if_neg hc6, if_neg n8, if_pos o10]; rfl
                · try simp only [decide_eq_true_eq, decide_eq_false_iff_not, Bool.or_eq_true, Bool.or_eq_false_iff, Bool.and_eq_true, Bool.and_eq_false_imp, Bool.not_eq_true', Bool.not_eq_false'] at hc10
                  have n10 : ¬ (op = 8 ∨ op = 11) := fun h => by have := q3.2 h; simp_all
                  refine AW.skip ?_
                  show AW _ _ _ _ _
                  refine AW.regR rfl (by simp (maxSteps := 1000000) only [go_sem, hnm, ha, hb, hcr, n5, n8, n10] <;> exact rfl) (by first | (simp (disch := omega) only [go_sem, w64, wU, hnm, ha, hb, hcr, n5, n8, n10] <;> exact rfl) | exact rfl) ?_
                  refine retK.fin rfl (by simp (maxSteps := 1000000) only [go_sem, hnm, ha, hb, hcr, n5, n8, n10] <;> exact rfl) (by simp (maxSteps := 1000000) only [go_sem, hnm, ha, hb, hcr, n5, n8, n10] <;> exact rfl) (.of ?_)
                  unfold usesS; rw [if_pos hnm, if_neg n5, if_neg hc6, if_neg n8, if_neg n10]; rfl
theorem c32 (op a b c m : Int) : PC Try.prog 32 [.agg [.int .i64 op, .int .i64 a, .int .i64 b, .int .i64 c, .int .u64 m]] (.agg (bR (setsS op a b c))) := by
  refine PC.start 22 Try.call32 Try.func32 rfl Try.ntmps32 Try.results32 (by simp only [go_sem]; exact rfl) fun z hz => ?_
  refine AW.regR rfl (by simp (maxSteps := 1000000) only [go_sem] <;> exact rfl) (by first | (simp (disch := omega) only [go_sem, w64, wU] <;> exact rfl) | exact rfl) ?_
  refine AW.seq ?_
  refine AW.regS rfl ?_
  refine ARN.run1 (by simp (maxSteps := 1000000) only [go_sem] <;> exact rfl) ?_
  refine ARN.pcall (fun hp => c61 op a b c m) rfl (by simp (maxSteps := 1000000) only [go_sem] <;> exact rfl) (by simp only [go_sem]) (by simp (maxSteps := 1000000) only [go_sem] <;> exact rfl) ?_
  refine ARN.run1 (by simp (maxSteps := 1000000) only [go_sem] <;> exact rfl) ?_
  refine ARN.fin (by first | (simp (disch := omega) only [go_sem, w64, wU] <;> exact rfl) | exact rfl) ?_
  refine AW.cond (by simp (maxSteps := 1000000) only [go_sem] <;> exact rfl) (fun hc1 => ?_) (fun hc1 => ?_)
  · try simp only [decide_eq_true_eq, decide_eq_false_iff_not, Bool.or_eq_true, Bool.or_eq_false_iff, Bool.and_eq_true, Bool.and_eq_false_imp, Bool.not_eq_true', Bool.not_eq_false'] at hc1
    refine AW.regR rfl (by simp (maxSteps := 1000000) only [go_sem] <;> exact rfl) (by first | (simp (disch := omega) only [go_sem, w64, wU] <;> exact rfl) | exact rfl) ?_
    refine retK.fin rfl (by simp (maxSteps := 1000000) only [go_sem] <;> exact rfl) (by simp (maxSteps := 1000000) only [go_sem] <;> exact rfl) (.of ?_)
    unfold setsS; rw [if_neg (by simpa using hc1)]; rfl
  · try simp only [decide_eq_true_eq, decide_eq_false_iff_not, Bool.or_eq_true, Bool.or_eq_false_iff, Bool.and_eq_true, Bool.and_eq_false_imp, Bool.not_eq_true', Bool.not_eq_false'] at hc1
    have hnm : namS op a b c := by simpa using hc1
    have ha : InR8 a := hnm.2.2.1
    have hb : InR8 b := hnm.2.2.2.1
    have hcr : InR8 c := hnm.2.2.2.2
    refine AW.skip ?_
    show AW _ _ _ _ _
    refine AW.seq ?_
    refine AW.regR rfl (by simp (maxSteps := 1000000) only [go_sem, hnm, ha, hb, hcr] <;> exact rfl) (by first | (simp (disch := omega) only [go_sem, w64, wU, hnm, ha, hb, hcr] <;> exact rfl) | exact rfl) ?_
    refine AW.block ?_
    refine AW.joinVh (α := (Bool)) (fun (b1 : (Bool)) => [(9, .pv (.bool b1))]) (fun (b1 : (Bool)) => ((b1 = true ↔ op = 1 ∨ op = 2 ∨ op = 3 ∨ op = 4 ∨ op = 7 ∨ op = 10 ∨ op = 9))) ?_ ?_
    · skip
      refine AW.regR rfl (by simp (maxSteps := 1000000) only [go_sem, hnm, ha, hb, hcr] <;> exact rfl) (by first | (simp (disch := omega) only [go_sem, w64, wU, hnm, ha, hb, hcr] <;> exact rfl) | exact rfl) ?_
      refine AW.cond (by simp (maxSteps := 1000000) only [go_sem, hnm, ha, hb, hcr] <;> exact rfl) (fun hc2 => ?_) (fun hc2 => ?_)
      · try simp only [decide_eq_true_eq, decide_eq_false_iff_not, Bool.or_eq_true, Bool.or_eq_false_iff, Bool.and_eq_true, Bool.and_eq_false_imp, Bool.not_eq_true', Bool.not_eq_false'] at hc2
        refine AW.skip ?_
        refine ⟨(decide (op = 1)), ?_, ?_⟩
        · exact by simp [hc2]
        · refine Wk.sub ?_
          simp (maxSteps := 1000000) (disch := omega) only [go_sem, w64, wU, hnm, ha, hb, hcr]
      · try simp only [decide_eq_true_eq, decide_eq_false_iff_not, Bool.or_eq_true, Bool.or_eq_false_iff, Bool.and_eq_true, Bool.and_eq_false_imp, Bool.not_eq_true', Bool.not_eq_false'] at hc2
        refine AW.regR rfl (by simp (maxSteps := 1000000) only [go_sem, hnm, ha, hb, hcr] <;> exact rfl) (by first | (simp (disch := omega) only [go_sem, w64, wU, hnm, ha, hb, hcr] <;> exact rfl) | exact rfl) ?_
        refine AW.cond (by simp (maxSteps := 1000000) only [go_sem, hnm, ha, hb, hcr] <;> exact rfl) (fun hc3 => ?_) (fun hc3 => ?_)
        · try simp only [decide_eq_true_eq, decide_eq_false_iff_not, Bool.or_eq_true, Bool.or_eq_false_iff, Bool.and_eq_true, Bool.and_eq_false_imp, Bool.not_eq_true', Bool.not_eq_false'] at hc3
          refine AW.skip ?_
          refine ⟨(decide (op = 2)), ?_, ?_⟩
          · exact by simp [hc2, hc3]
          · refine Wk.sub ?_
            simp (maxSteps := 1000000) (disch := omega) only [go_sem, w64, wU, hnm, ha, hb, hcr]
        · try simp only [decide_eq_true_eq, decide_eq_false_iff_not, Bool.or_eq_true, Bool.or_eq_false_iff, Bool.and_eq_true, Bool.and_eq_false_imp, Bool.not_eq_true', Bool.not_eq_false'] at hc3
          refine AW.regR rfl (by simp (maxSteps := 1000000) only [go_sem, hnm, ha, hb, hcr] <;> exact rfl) (by first | (simp (disch := omega) only [go_sem, w64, wU, hnm, ha, hb, hcr] <;> exact rfl) | exact rfl) ?_
          refine AW.cond (by simp (maxSteps := 1000000) only [go_sem, hnm, ha, hb, hcr] <;> exact rfl) (fun hc4 => ?_) (fun hc4 => ?_)
          · try simp only [decide_eq_true_eq, decide_eq_false_iff_not, Bool.or_eq_true, Bool.or_eq_false_iff, Bool.and_eq_true, Bool.and_eq_false_imp, Bool.not_eq_true', Bool.not_eq_false'] at hc4
            refine AW.skip ?_
            refine ⟨(decide (op = 3)), ?_, ?_⟩
            · exact by simp [hc2, hc3, hc4]
            · refine Wk.sub ?_
              simp (maxSteps := 1000000) (disch := omega) only [go_sem, w64, wU, hnm, ha, hb, hcr]
          · try simp only [decide_eq_true_eq, decide_eq_false_iff_not, Bool.or_eq_true, Bool.or_eq_false_iff, Bool.and_eq_true, Bool.and_eq_false_imp, Bool.not_eq_true', Bool.not_eq_false'] at hc4
            refine AW.regR rfl (by simp (maxSteps := 1000000) only [go_sem, hnm, ha, hb, hcr] <;> exact rfl) (by first | (simp (disch := omega) only [go_sem, w64, wU, hnm, ha, hb, hcr] <;> exact rfl) | exact rfl) ?_
            refine AW.cond (by simp (maxSteps := 1000000) only [go_sem, hnm, ha, hb, hcr] <;> exact rfl) (fun hc5 => ?_) (fun hc5 => ?_)
            · try simp only [decide_eq_true_eq, decide_eq_false_iff_not, Bool.or_eq_true, Bool.or_eq_false_iff, Bool.and_eq_true, Bool.and_eq_false_imp, Bool.not_eq_true', Bool.not_eq_false'] at hc5
              refine AW.skip ?_
              refine ⟨(decide (op = 4)), ?_, ?_⟩
              · exact by simp [hc2, hc3, hc4, hc5]
              · refine Wk.sub ?_
                simp (maxSteps := 1000000) (disch := omega) only [go_sem, w64, wU, hnm, ha, hb, hcr]
            · try simp only [decide_eq_true_eq, decide_eq_false_iff_not, Bool.or_eq_true, Bool.or_eq_false_iff, Bool.and_eq_true, Bool.and_eq_false_imp, Bool.not_eq_true', Bool.not_eq_false'] at hc5
              refine AW.regR rfl (by simp (maxSteps := 1000000) only [go_sem, hnm, ha, hb, hcr] <;> exact rfl) (by first | (simp (disch := omega) only [go_sem, w64, wU, hnm, ha, hb, hcr] <;> exact rfl) | exact rfl) ?_
              refine AW.cond (by simp (maxSteps := 1000000) only [go_sem, hnm, ha, hb, hcr] <;> exact rfl) (fun hc6 => ?_) (fun hc6 => ?_)
              · try simp only [decide_eq_true_eq, decide_eq_false_iff_not, Bool.or_eq_true, Bool.or_eq_false_iff, Bool.and_eq_true, Bool.and_eq_false_imp, Bool.not_eq_true', Bool.not_eq_false'] at hc6
                refine AW.skip ?_
                refine ⟨(decide (op = 7)), ?_, ?_⟩
                · exact by simp [hc2, hc3, hc4, hc5, hc6]
                · refine Wk.sub ?_
                  simp (maxSteps := 1000000) (disch := omega) only [go_sem, w64, wU, hnm, ha, hb, hcr]
              · try simp only [decide_eq_true_eq, decide_eq_false_iff_not, Bool.or_eq_true, Bool.or_eq_false_iff, Bool.and_eq_true, Bool.and_eq_false_imp, Bool.not_eq_true', Bool.not_eq_false'] at hc6
                refine AW.regR rfl (by simp (maxSteps := 1000000) only [go_sem, hnm, ha, hb, hcr] <;> exact rfl) (by first | (simp (disch := omega) only [go_sem, w64, wU, hnm, ha, hb, hcr] <;> exact rfl) | exact rfl) ?_
                refine AW.cond (by simp (maxSteps := 1000000) only [go_sem, hnm, ha, hb, hcr] <;> exact rfl) (fun hc7 => ?_) (fun hc7 => ?_)
                · try simp only [decide_eq_true_eq, decide_eq_false_iff_not, Bool.or_eq_true, Bool.or_eq_false_iff, Bool.and_eq_true, Bool.and_eq_false_imp, Bool.not_eq_true', Bool.not_eq_false'] at hc7
                  refine AW.skip ?_
                  refine ⟨(decide (op = 10)), ?_, ?_⟩
                  · exact by simp [hc2, hc3, hc4, hc5, hc6, hc7]
                  · refine Wk.sub ?_
                    simp (maxSteps := 1000000) (disch := omega) only [go_sem, w64, wU, hnm, ha, hb, hcr]
                · try simp only [decide_eq_true_eq, decide_eq_false_iff_not, Bool.or_eq_true, Bool.or_eq_false_iff, Bool.and_eq_true, Bool.and_eq_false_imp, Bool.not_eq_true', Bool.not_eq_false'] at hc7
                  refine AW.regR1 rfl (by simp (maxSteps := 1000000) only [go_sem, hnm, ha, hb, hcr] <;> exact rfl) (by first | (simp (disch := omega) only [go_sem, w64, wU, hnm, ha, hb, hcr] <;> exact rfl) | exact rfl) ?_
                  refine ⟨(decide (op = 9)), ?_, ?_⟩
                  · exact by simp [hc2, hc3, hc4, hc5, hc6, hc7]
                  · refine Wk.sub ?_
                    simp (maxSteps := 1000000) (disch := omega) only [go_sem, w64, wU, hnm, ha, hb, hcr]
    · rintro b1 hF _ ht
      simp only [updT, go_sem] at ht
      subst ht
      have q1 := hF
      refine AW.cond (by simp (maxSteps := 1000000) only [go_sem, hnm, ha, hb, hcr] <;> exact rfl) (fun hc8 => ?_) (fun hc8 => ?_)
      · try simp only [decide_eq_true_eq, decide_eq_false_iff_not, Bool.or_eq_true, Bool.or_eq_false_iff, Bool.and_eq_true, Bool.and_eq_false_imp, Bool.not_eq_true', Bool.not_eq_false'] at hc8
        have o8 : (op = 1 ∨ op = 2 ∨ op = 3 ∨ op = 4 ∨ op = 7 ∨ op = 10 ∨ op = 9) := q1.1 hc8
        refine AW.regS rfl ?_
        refine ARN.run1 (by simp (maxSteps := 1000000) only [go_sem, hnm, ha, hb, hcr, o8] <;> exact rfl) ?_
        refine ARN.pcall (fun hp => c62a a ha) rfl (by simp (maxSteps := 1000000) only [go_sem, hnm, ha, hb, hcr, o8] <;> exact rfl) (by simp only [go_sem]) (by simp (maxSteps := 1000000) only [go_sem, hnm, ha, hb, hcr, o8] <;> exact rfl) ?_
        refine ARN.run1 (by simp (maxSteps := 1000000) only [go_sem, hnm, ha, hb, hcr, o8] <;> exact rfl) ?_
        refine ARN.fin (by first | (simp (disch := omega) only [go_sem, w64, wU, hnm, ha, hb, hcr, o8] <;> exact rfl) | exact rfl) ?_
        refine retK.fin rfl (by simp (maxSteps := 1000000) only [go_sem, hnm, ha, hb, hcr, o8] <;> exact rfl) (by simp (maxSteps := 1000000) only [go_sem, hnm, ha, hb, hcr, o8] <;> exact rfl) (.of ?_)
        unfold setsS; rw [if_pos hnm, if_pos (show (op = 1 ∨ op = 2 ∨ op = 3 ∨ op = 4 ∨ op = 7 ∨ op = 9 ∨ op = 10) by omega)]; rfl
      · try simp only [decide_eq_true_eq, decide_eq_false_iff_not, Bool.or_eq_true, Bool.or_eq_false_iff, Bool.and_eq_true, Bool.and_eq_false_imp, Bool.not_eq_true', Bool.not_eq_false'] at hc8
        have n8 : ¬ (op = 1 ∨ op = 2 ∨ op = 3 ∨ op = 4 ∨ op = 7 ∨ op = 10 ∨ op = 9) := fun h => by have := q1.2 h; simp_all
        refine AW.skip ?_
        show AW _ _ _ _ _
        refine AW.regR rfl (by simp (maxSteps := 1000000) only [go_sem, hnm, ha, hb, hcr, n8] <;> exact rfl) (by first | (simp (disch := omega) only [go_sem, w64, wU, hnm, ha, hb, hcr, n8] <;> exact rfl) | exact rfl) ?_
        refine retK.fin rfl (by simp (maxSteps := 1000000) only [go_sem, hnm, ha, hb, hcr, n8] <;> exact rfl) (by simp (maxSteps := 1000000) only [go_sem, hnm, ha, hb, hcr, n8] <;> exact rfl) (.of ?_)
        unfold setsS; rw [if_pos hnm, if_neg (show ¬ (op = 1 ∨ op = 2 ∨ op = 3 ∨ op = 4 ∨ op = 7 ∨ op = 9 ∨ op = 10) by omega)]; rfl
theorem c33 (op a b c m : Int) : PC Try.prog 33 [.agg [.int .i64 op, .int .i64 a, .int .i64 b, .int .i64 c, .int .u64 m]] (.agg (bR (setsS op a b c))) := by
  refine PC.start 22 Try.call33 Try.func33 rfl Try.ntmps33 Try.results33 (by simp only [go_sem]; exact rfl) fun z hz => ?_
  refine AW.regR rfl (by simp (maxSteps := 1000000) only [go_sem] <;> exact rfl) (by first | (simp (disch := omega) only [go_sem, w64, wU] <;> exact rfl) | exact rfl) ?_
  refine AW.regR rfl (by simp (maxSteps := 1000000) only [go_sem] <;> exact rfl) (by first | (simp (disch := omega) only [go_sem, w64, wU] <;> exact rfl) | exact rfl) ?_
  refine AW.seq ?_
  refine AW.regS rfl ?_
  refine ARN.run1 (by simp (maxSteps := 1000000) only [go_sem] <;> exact rfl) ?_
  refine ARN.pcall (fun hp => c63 op a b c m) rfl (by simp (maxSteps := 1000000) only [go_sem] <;> exact rfl) (by simp only [go_sem]) (by simp (maxSteps := 1000000) only [go_sem] <;> exact rfl) ?_
  refine ARN.run1 (by simp (maxSteps := 1000000) only [go_sem] <;> exact rfl) ?_
  refine ARN.fin (by first | (simp (disch := omega) only [go_sem, w64, wU] <;> exact rfl) | exact rfl) ?_
  refine AW.cond (by simp (maxSteps := 1000000) only [go_sem] <;> exact rfl) (fun hc1 => ?_) (fun hc1 => ?_)
  · try simp only [decide_eq_true_eq, decide_eq_false_iff_not, Bool.or_eq_true, Bool.or_eq_false_iff, Bool.and_eq_true, Bool.and_eq_false_imp, Bool.not_eq_true', Bool.not_eq_false'] at hc1
    refine AW.regR rfl (by simp (maxSteps := 1000000) only [go_sem] <;> exact rfl) (by first | (simp (disch := omega) only [go_sem, w64, wU] <;> exact rfl) | exact rfl) ?_
    refine retK.fin rfl (by simp (maxSteps := 1000000) only [go_sem] <;> exact rfl) (by simp (maxSteps := 1000000) only [go_sem] <;> exact rfl) (.of ?_)
    unfold setsS; rw [if_neg (by simpa using hc1)]; rfl
  · try simp only [decide_eq_true_eq, decide_eq_false_iff_not, Bool.or_eq_true, Bool.or_eq_false_iff, Bool.and_eq_true, Bool.and_eq_false_imp, Bool.not_eq_true', Bool.not_eq_false'] at hc1
    have hnm : namS op a b c := by simpa using hc1
    have ha : InR8 a := hnm.2.2.1
    have hb : InR8 b := hnm.2.2.2.1
    have hcr : InR8 c := hnm.2.2.2.2
    refine AW.skip ?_
    show AW _ _ _ _ _
    refine AW.seq ?_
    refine AW.regR rfl (by simp (maxSteps := 1000000) only [go_sem, hnm, ha, hb, hcr] <;> exact rfl) (by first | (simp (disch := omega) only [go_sem, w64, wU, hnm, ha, hb, hcr] <;> exact rfl) | exact rfl) ?_
    refine AW.block ?_
    refine AW.joinVh (α := (Bool)) (fun (b1 : (Bool)) => [(10, .pv (.bool b1))]) (fun (b1 : (Bool)) => ((b1 = true ↔ op = 1 ∨ op = 2 ∨ op = 3 ∨ op = 4 ∨ op = 7 ∨ op = 9 ∨ op = 10))) ?_ ?_
    · skip
      refine AW.regR rfl (by simp (maxSteps := 1000000) only [go_sem, hnm, ha, hb, hcr] <;> exact rfl) (by first | (simp (disch := omega) only [go_sem, w64, wU, hnm, ha, hb, hcr] <;> exact rfl) | exact rfl) ?_
      refine AW.cond (by simp (maxSteps := 1000000) only [go_sem, hnm, ha, hb, hcr] <;> exact rfl) (fun hc2 => ?_) (fun hc2 => ?_)
      · try simp only [decide_eq_true_eq, decide_eq_false_iff_not, Bool.or_eq_true, Bool.or_eq_false_iff, Bool.and_eq_true, Bool.and_eq_false_imp, Bool.not_eq_true', Bool.not_eq_false'] at hc2
        refine AW.skip ?_
        refine ⟨(decide (op = 1)), ?_, ?_⟩
        · exact by simp [hc2]
        · refine Wk.sub ?_
          simp (maxSteps := 1000000) (disch := omega) only [go_sem, w64, wU, hnm, ha, hb, hcr]
      · try simp only [decide_eq_true_eq, decide_eq_false_iff_not, Bool.or_eq_true, Bool.or_eq_false_iff, Bool.and_eq_true, Bool.and_eq_false_imp, Bool.not_eq_true', Bool.not_eq_false'] at hc2
        refine AW.regR rfl (by simp (maxSteps := 1000000) only [go_sem, hnm, ha, hb, hcr] <;> exact rfl) (by first | (simp (disch := omega) only [go_sem, w64, wU, hnm, ha, hb, hcr] <;> exact rfl) | exact rfl) ?_
        refine AW.cond (by simp (maxSteps := 1000000) only [go_sem, hnm, ha, hb, hcr] <;> exact rfl) (fun hc3 => ?_) (fun hc3 => ?_)
        · try simp only [decide_eq_true_eq, decide_eq_false_iff_not, Bool.or_eq_true, Bool.or_eq_false_iff, Bool.and_eq_true, Bool.and_eq_false_imp, Bool.not_eq_true', Bool.not_eq_false'] at hc3
          refine AW.skip ?_
          refine ⟨(decide (op = 2)), ?_, ?_⟩
          · exact by simp [hc2, hc3]
          · refine Wk.sub ?_
            simp (maxSteps := 1000000) (disch := omega) only [go_sem, w64, wU, hnm, ha, hb, hcr]
        · try simp only [decide_eq_true_eq, decide_eq_false_iff_not, Bool.or_eq_true, Bool.or_eq_false_iff, Bool.and_eq_true, Bool.and_eq_false_imp, Bool.not_eq_true', Bool.not_eq_false'] at hc3
          refine AW.regR rfl (by simp (maxSteps := 1000000) only [go_sem, hnm, ha, hb, hcr] <;> exact rfl) (by first | (simp (disch := omega) only [go_sem, w64, wU, hnm, ha, hb, hcr] <;> exact rfl) | exact rfl) ?_
          refine AW.cond (by simp (maxSteps := 1000000) only [go_sem, hnm, ha, hb, hcr] <;> exact rfl) (fun hc4 => ?_) (fun hc4 => ?_)
          · try simp only [decide_eq_true_eq, decide_eq_false_iff_not, Bool.or_eq_true, Bool.or_eq_false_iff, Bool.and_eq_true, Bool.and_eq_false_imp, Bool.not_eq_true', Bool.not_eq_false'] at hc4
            refine AW.skip ?_
            refine ⟨(decide (op = 3)), ?_, ?_⟩
            · exact by simp [hc2, hc3, hc4]
            · refine Wk.sub ?_
              simp (maxSteps := 1000000) (disch := omega) only [go_sem, w64, wU, hnm, ha, hb, hcr]
          · try simp only [decide_eq_true_eq, decide_eq_false_iff_not, Bool.or_eq_true, Bool.or_eq_false_iff, Bool.and_eq_true, Bool.and_eq_false_imp, Bool.not_eq_true', Bool.not_eq_false'] at hc4
            refine AW.regR rfl (by simp (maxSteps := 1000000) only [go_sem, hnm, ha, hb, hcr] <;> exact rfl) (by first | (simp (disch := omega) only [go_sem, w64, wU, hnm, ha, hb, hcr] <;> exact rfl) | exact rfl) ?_
            refine AW.cond (by simp (maxSteps := 1000000) only [go_sem, hnm, ha, hb, hcr] <;> exact rfl) (fun hc5 => ?_) (fun hc5 => ?_)
            · try simp only [decide_eq_true_eq, decide_eq_false_iff_not, Bool.or_eq_true, Bool.or_eq_false_iff, Bool.and_eq_true, Bool.and_eq_false_imp, Bool.not_eq_true', Bool.not_eq_false'] at hc5
              refine AW.skip ?_
              refine ⟨(decide (op = 4)), ?_, ?_⟩
              · exact by simp [hc2, hc3, hc4, hc5]
              · refine Wk.sub ?_
                simp (maxSteps := 1000000) (disch := omega) only [go_sem, w64, wU, hnm, ha, hb, hcr]
            · try simp only [decide_eq_true_eq, decide_eq_false_iff_not, Bool.or_eq_true, Bool.or_eq_false_iff, Bool.and_eq_true, Bool.and_eq_false_imp, Bool.not_eq_true', Bool.not_eq_false'] at hc5
              refine AW.regR rfl (by simp (maxSteps := 1000000) only [go_sem, hnm, ha, hb, hcr] <;> exact rfl) (by first | (simp (disch := omega) only [go_sem, w64, wU, hnm, ha, hb, hcr] <;> exact rfl) | exact rfl) ?_
              refine AW.cond (by simp (maxSteps := 1000000) only [go_sem, hnm, ha, hb, hcr] <;> exact rfl) (fun hc6 => ?_) (fun hc6 => ?_)
              · try simp only [decide_eq_true_eq, decide_eq_false_iff_not, Bool.or_eq_true, Bool.or_eq_false_iff, Bool.and_eq_true, Bool.and_eq_false_imp, Bool.not_eq_true', Bool.not_eq_false'] at hc6
                refine AW.skip ?_
                refine ⟨(decide (op = 7)), ?_, ?_⟩
                · exact by simp [hc2, hc3, hc4, hc5, hc6]
                · refine Wk.sub ?_
                  simp (maxSteps := 1000000) (disch := omega) only [go_sem, w64, wU, hnm, ha, hb, hcr]
              · try simp only [decide_eq_true_eq, decide_eq_false_iff_not, Bool.or_eq_true, Bool.or_eq_false_iff, Bool.and_eq_true, Bool.and_eq_false_imp, Bool.not_eq_true', Bool.not_eq_false'] at hc6
                refine AW.regR rfl (by simp (maxSteps := 1000000) only [go_sem, hnm, ha, hb, hcr] <;> exact rfl) (by first | (simp (disch := omega) only [go_sem, w64, wU, hnm, ha, hb, hcr] <;> exact rfl) | exact rfl) ?_
                refine AW.cond (by simp (maxSteps := 1000000) only [go_sem, hnm, ha, hb, hcr] <;> exact rfl) (fun hc7 => ?_) (fun hc7 => ?_)
                · try simp only [decide_eq_true_eq, decide_eq_false_iff_not, Bool.or_eq_true, Bool.or_eq_false_iff, Bool.and_eq_true, Bool.and_eq_false_imp, Bool.not_eq_true', Bool.not_eq_false'] at hc7
                  refine AW.skip ?_
                  refine ⟨(decide (op = 9)), ?_, ?_⟩
                  · exact by simp [hc2, hc3, hc4, hc5, hc6, hc7]
                  · refine Wk.sub ?_
                    simp (maxSteps := 1000000) (disch := omega) only [go_sem, w64, wU, hnm, ha, hb, hcr]
                · try simp only [decide_eq_true_eq, decide_eq_false_iff_not, Bool.or_eq_true, Bool.or_eq_false_iff, Bool.and_eq_true, Bool.and_eq_false_imp, Bool.not_eq_true', Bool.not_eq_false'] at hc7
                  refine AW.regR1 rfl (by simp (maxSteps := 1000000) only [go_sem, hnm, ha, hb, hcr] <;> exact rfl) (by first | (simp (disch := omega) only [go_sem, w64, wU, hnm, ha, hb, hcr] <;> exact rfl) | exact rfl) ?_
                  refine ⟨(decide (op = 10)), ?_, ?_⟩
                  · exact by simp [hc2, hc3, hc4, hc5, hc6, hc7]
                  · refine Wk.sub ?_
                    simp (maxSteps := 1000000) (disch := omega) only [go_sem, w64, wU, hnm, ha, hb, hcr]
    · rintro b1 hF _ ht
      simp only [updT, go_sem] at ht
      subst ht
      have q1 := hF
      refine AW.cond (by simp (maxSteps := 1000000) only [go_sem, hnm, ha, hb, hcr] <;> exact rfl) (fun hc8 => ?_) (fun hc8 => ?_)
      · try simp only [decide_eq_true_eq, decide_eq_false_iff_not, Bool.or_eq_true, Bool.or_eq_false_iff, Bool.and_eq_true, Bool.and_eq_false_imp, Bool.not_eq_true', Bool.not_eq_false'] at hc8
        have o8 : (op = 1 ∨ op = 2 ∨ op = 3 ∨ op = 4 ∨ op = 7 ∨ op = 9 ∨ op = 10) := q1.1 hc8
        refine AW.regR1 rfl (by simp (maxSteps := 1000000) only [go_sem, hnm, ha, hb, hcr, o8] <;> exact rfl) (by first | (simp (disch := omega) only [go_sem, w64, wU, hnm, ha, hb, hcr, o8] <;> exact rfl) | exact rfl) ?_
        show AW _ _ _ _ _
        refine AW.regR rfl (by simp (maxSteps := 1000000) only [go_sem, hnm, ha, hb, hcr, o8] <;> exact rfl) (by first | (simp (disch := omega) only [go_sem, w64, wU, hnm, ha, hb, hcr, o8] <;> exact rfl) | exact rfl) ?_
        refine retK.fin rfl (by simp (maxSteps := 1000000) only [go_sem, hnm, ha, hb, hcr, o8] <;> exact rfl) (by simp (maxSteps := 1000000) only [go_sem, hnm, ha, hb, hcr, o8] <;> exact rfl) (.of ?_)
        unfold setsS; rw [if_pos hnm, if_pos (show (op = 1 ∨ op = 2 ∨ op = 3 ∨ op = 4 ∨ op = 7 ∨ op = 9 ∨ op = 10) by omega)]; rfl
      · try simp only [decide_eq_true_eq, decide_eq_false_iff_not, Bool.or_eq_true, Bool.or_eq_false_iff, Bool.and_eq_true, Bool.and_eq_false_imp, Bool.not_eq_true', Bool.not_eq_false'] at hc8
        have n8 : ¬ (op = 1 ∨ op = 2 ∨ op = 3 ∨ op = 4 ∨ op = 7 ∨ op = 9 ∨ op = 10) := fun h => by have := q1.2 h; simp_all
        refine AW.skip ?_
        show AW _ _ _ _ _
        refine AW.regR rfl (by simp (maxSteps := 1000000) only [go_sem, hnm, ha, hb, hcr, n8] <;> exact rfl) (by first | (simp (disch := omega) only [go_sem, w64, wU, hnm, ha, hb, hcr, n8] <;> exact rfl) | exact rfl) ?_
        refine retK.fin rfl (by simp (maxSteps := 1000000) only [go_sem, hnm, ha, hb, hcr, n8] <;> exact rfl) (by simp (maxSteps := 1000000) only [go_sem, hnm, ha, hb, hcr, n8] <;> exact rfl) (.of ?_)
        unfold setsS; rw [if_pos hnm, if_neg (show ¬ (op = 1 ∨ op = 2 ∨ op = 3 ∨ op = 4 ∨ op = 7 ∨ op = 9 ∨ op = 10) by omega)]; rfl
end Go.Ab.Try
