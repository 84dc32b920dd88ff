/- Programs as bytes: the example. -/
import Derived.Test.YthaapgbkjocilaaImH
import Derived.Test.YthaapgbkjocilaaImJ
import Derived.Test.YthaapgbkjocilaaImK
import Derived.Test.YthaapgbkjocilaaMG
namespace Go.Ab.Try
open Go.Proofs Go.Ab
set_option linter.unusedVariables false
set_option linter.unusedSimpArgs false
set_option linter.unnecessarySimpa false
set_option maxRecDepth 100000
def pz : PV := .agg [.int .i64 0, .int .i64 0, .lst true 0 [], .lst true 0 [], .lst true 0 [], .lst true 0 []]
attribute [go_sem] pz
theorem c8x : PC Try.prog 8 [pz] (.tup [.str (strOf [66, 87, 75, 49, 0, 0, 0, 0, 0, 0]), .int .i64 0]) := by
  have := (c8 pg0 sm_0).arg (ps := [pz]) ⟨sub_pg0, trivial⟩
  rwa [put_Z.1, put_Z.2] at this
theorem c12a : PC Try.prog 12 [.str ⟨#[66, 87, 75, 49, 1, 2, 0, 1, 14, 3, 0, 0, 0, 0, 0, 0, 0, 0, 0, 7, 0, 0]⟩] (.tup [pgV pA, .int .i64 0]) := by
  have := c12 lA (ok_dec (by decide)) (by decide)
  rwa [read_A, ← lit_A] at this
theorem c12b : PC Try.prog 12 [.str ⟨#[66, 87, 75, 50]⟩] (.tup [pgV pg0, .int .i64 12]) := by
  have := c12 [66, 87, 75, 50] (ok_dec (by decide)) (by decide)
  rwa [read_B, ← lit_B] at this
theorem c12c : PC Try.prog 12 [.str ⟨#[66, 87]⟩] (.tup [pgV pg0, .int .i64 6]) := by
  have := c12 [66, 87] (ok_dec (by decide)) (by decide)
  rwa [read_C, ← lit_C] at this
theorem c12d : PC Try.prog 12 [.str (strOf [66, 87, 75, 49, 0, 0, 0, 0, 0, 0, 120])] (.tup [pgV pg0, .int .i64 5]) := by
  have := c12 [66, 87, 75, 49, 0, 0, 0, 0, 0, 0, 120] (ok_dec (by decide)) (by decide)
  rwa [read_D] at this
theorem c10z : PC Try.prog 10 [pgV pA, pz] (.bool (decide (pA = pg0))) := (c10 pA pg0 sm_A sm_0).arg (ps := [pgV pA, pz]) ⟨Sub.refl _, sub_pg0, trivial⟩
attribute [go_sem] pA pg0
theorem c7  : PC Try.prog 7 [] (.bool true) := by
  refine PC.start 91 Try.call7 Try.func7 rfl Try.ntmps7 Try.results7 (by simp only [go_sem]; exact rfl) fun z hz => ?_
  refine AW.regR rfl (by simp (maxSteps := 1000000) only [go_sem, lit_X, lit_Z, List.cons_append, List.nil_append, List.map_cons, List.map_nil] <;> exact rfl) (by first | (simp (disch := omega) only [go_sem, w64, wU, lit_X, lit_Z, List.cons_append, List.nil_append, List.map_cons, List.map_nil] <;> exact rfl) | exact rfl) ?_
  refine AW.regS rfl ?_
  refine ARN.run1 (by simp (maxSteps := 1000000) only [go_sem, lit_X, lit_Z, List.cons_append, List.nil_append, List.map_cons, List.map_nil] <;> exact rfl) ?_
  refine ARN.pcall (fun hp => c8x) rfl (by simp (maxSteps := 1000000) only [go_sem, lit_X, lit_Z, List.cons_append, List.nil_append, List.map_cons, List.map_nil] <;> exact rfl) (by simp only [go_sem]) (by simp (maxSteps := 1000000) only [go_sem, lit_X, lit_Z, List.cons_append, List.nil_append, List.map_cons, List.map_nil] <;> exact rfl) ?_
  refine ARN.run1 (by simp (maxSteps := 1000000) only [go_sem, lit_X, lit_Z, List.cons_append, List.nil_append, List.map_cons, List.map_nil] <;> exact rfl) ?_
  refine ARN.fin (by first | (simp (disch := omega) only [go_sem, w64, wU, lit_X, lit_Z, List.cons_append, List.nil_append, List.map_cons, List.map_nil] <;> exact rfl) | exact rfl) ?_
  refine AW.regS rfl ?_
  refine ARN.pcall (fun hp => c12a) rfl (by simp (maxSteps := 1000000) only [go_sem, lit_X, lit_Z, List.cons_append, List.nil_append, List.map_cons, List.map_nil] <;> exact rfl) (by simp only [go_sem]) (by simp (maxSteps := 1000000) only [go_sem, lit_X, lit_Z, List.cons_append, List.nil_append, List.map_cons, List.map_nil] <;> exact rfl) ?_
  refine ARN.run1 (by simp (maxSteps := 1000000) only [go_sem, lit_X, lit_Z, List.cons_append, List.nil_append, List.map_cons, List.map_nil] <;> exact rfl) ?_
  refine ARN.fin (by first | (simp (disch := omega) only [go_sem, w64, wU, lit_X, lit_Z, List.cons_append, List.nil_append, List.map_cons, List.map_nil] <;> exact rfl) | exact rfl) ?_
  refine AW.regS rfl ?_
  refine ARN.pcall (fun hp => c12b) rfl (by simp (maxSteps := 1000000) only [go_sem, lit_X, lit_Z, List.cons_append, List.nil_append, List.map_cons, List.map_nil] <;> exact rfl) (by simp only [go_sem]) (by simp (maxSteps := 1000000) only [go_sem, lit_X, lit_Z, List.cons_append, List.nil_append, List.map_cons, List.map_nil] <;> exact rfl) ?_
  refine ARN.run1 (by simp (maxSteps := 1000000) only [go_sem, lit_X, lit_Z, List.cons_append, List.nil_append, List.map_cons, List.map_nil] <;> exact rfl) ?_
  refine ARN.fin (by first | (simp (disch := omega) only [go_sem, w64, wU, lit_X, lit_Z, List.cons_append, List.nil_append, List.map_cons, List.map_nil] <;> exact rfl) | exact rfl) ?_
  refine AW.regS rfl ?_
  refine ARN.pcall (fun hp => c12c) rfl (by simp (maxSteps := 1000000) only [go_sem, lit_X, lit_Z, List.cons_append, List.nil_append, List.map_cons, List.map_nil] <;> exact rfl) (by simp only [go_sem]) (by simp (maxSteps := 1000000) only [go_sem, lit_X, lit_Z, List.cons_append, List.nil_append, List.map_cons, List.map_nil] <;> exact rfl) ?_
  refine ARN.run1 (by simp (maxSteps := 1000000) only [go_sem, lit_X, lit_Z, List.cons_append, List.nil_append, List.map_cons, List.map_nil] <;> exact rfl) ?_
  refine ARN.fin (by first | (simp (disch := omega) only [go_sem, w64, wU, lit_X, lit_Z, List.cons_append, List.nil_append, List.map_cons, List.map_nil] <;> exact rfl) | exact rfl) ?_
  refine AW.regS rfl ?_
  refine ARN.run1 (by simp (maxSteps := 1000000) only [go_sem, lit_X, lit_Z, List.cons_append, List.nil_append, List.map_cons, List.map_nil] <;> exact rfl) ?_
  refine ARN.pcall (fun hp => c12d) rfl (by simp (maxSteps := 1000000) only [go_sem, lit_X, lit_Z, List.cons_append, List.nil_append, List.map_cons, List.map_nil] <;> exact rfl) (by simp only [go_sem]) (by simp (maxSteps := 1000000) only [go_sem, lit_X, lit_Z, List.cons_append, List.nil_append, List.map_cons, List.map_nil] <;> exact rfl) ?_
  refine ARN.run1 (by simp (maxSteps := 1000000) only [go_sem, lit_X, lit_Z, List.cons_append, List.nil_append, List.map_cons, List.map_nil] <;> exact rfl) ?_
  refine ARN.fin (by first | (simp (disch := omega) only [go_sem, w64, wU, lit_X, lit_Z, List.cons_append, List.nil_append, List.map_cons, List.map_nil] <;> exact rfl) | exact rfl) ?_
  refine AW.seq ?_
  refine AW.regR rfl (by simp (maxSteps := 1000000) only [go_sem, lit_X, lit_Z, List.cons_append, List.nil_append, List.map_cons, List.map_nil] <;> exact rfl) (by first | (simp (disch := omega) only [go_sem, w64, wU, lit_X, lit_Z, List.cons_append, List.nil_append, List.map_cons, List.map_nil] <;> exact rfl) | exact rfl) ?_
  refine AW.condF (by simp (maxSteps := 1000000) only [go_sem, lit_X, lit_Z, List.cons_append, List.nil_append, List.map_cons, List.map_nil] <;> exact rfl) ?_
  refine AW.skip ?_
  show AW _ _ _ _ _
  refine AW.regS rfl ?_
  refine ARN.run1 (by simp (maxSteps := 1000000) only [go_sem, lit_X, lit_Z, List.cons_append, List.nil_append, List.map_cons, List.map_nil] <;> exact rfl) ?_
  refine ARN.pcall (fun hp => c10 pA pA sm_A sm_A) rfl (by simp (maxSteps := 1000000) only [go_sem, lit_X, lit_Z, List.cons_append, List.nil_append, List.map_cons, List.map_nil] <;> exact rfl) (by simp only [go_sem]) (by simp (maxSteps := 1000000) only [go_sem, lit_X, lit_Z, List.cons_append, List.nil_append, List.map_cons, List.map_nil] <;> exact rfl) ?_
  refine ARN.run1 (by simp (maxSteps := 1000000) only [go_sem, lit_X, lit_Z, List.cons_append, List.nil_append, List.map_cons, List.map_nil] <;> exact rfl) ?_
  refine ARN.pcall (fun hp => c10z) rfl (by simp (maxSteps := 1000000) only [go_sem, lit_X, lit_Z, List.cons_append, List.nil_append, List.map_cons, List.map_nil] <;> exact rfl) (by simp only [go_sem]) (by simp (maxSteps := 1000000) only [go_sem, lit_X, lit_Z, List.cons_append, List.nil_append, List.map_cons, List.map_nil] <;> exact rfl) ?_
  refine ARN.run1 (by simp (maxSteps := 1000000) only [go_sem, lit_X, lit_Z, List.cons_append, List.nil_append, List.map_cons, List.map_nil] <;> exact rfl) ?_
  refine ARN.fin (by first | (simp (disch := omega) only [go_sem, w64, wU, lit_X, lit_Z, List.cons_append, List.nil_append, List.map_cons, List.map_nil] <;> exact rfl) | exact rfl) ?_
  refine retK.fin rfl (by simp (maxSteps := 1000000) only [go_sem, lit_X, lit_Z, List.cons_append, List.nil_append, List.map_cons, List.map_nil] <;> exact rfl) (by simp (maxSteps := 1000000) only [go_sem, lit_X, lit_Z, List.cons_append, List.nil_append, List.map_cons, List.map_nil] <;> exact rfl) (.of ?_)
  exact congrArg PV.bool (by decide +kernel)
end Go.Ab.Try
