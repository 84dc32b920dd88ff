/- The one package variable that is read: what its condition gives, and a world that meets it. -/
import Derived.Test.YtalgjggmhhdkkaaDoorKD
import Derived.Test.YtalgjggmhhdkkaaDoorHd
import Derived.Test.YtalgjggmhhdkkaaDoorRows
import Derived.ChangeSame
import Derived.ChangeVars
import Derived.JoinedOf
import Derived.RowKit
import Derived.RowKitTokens
import Derived.LaidLaws
import Derived.LaidHandle
import Derived.Stop.Joined
namespace Go.Ab.Tryd
open Go Go.Proofs Go.Proofs.YtalgjggmhhdkkaaDoor Go.ChangeShapes Go.WideShapes Go.RowKit Go.Ab
set_option linter.unusedVariables false
def laidL {H : Type} : List (String × DataW H) := [("errors.errorType", Rows.laid_errors_errorType)]
theorem lw_et : Tryd.prog.globalNamed "errors.errorType" = some 0 := by kernel_rfl
theorem lw_rt : (Tryd.prog.cutTypes.find? (·.1 == "internal/reflectlite.rtype")).map (·.2) = some 82 := by kernel_rfl
theorem lw_size : Tryd.prog.types.size = 141 := by kernel_rfl
theorem lw_one : ((List.range 141).filter fun t => Tryd.prog.rowNamed t [101, 114, 114, 111, 114]) = [51] := by kernel_rfl
theorem handle_of_laid {W : World} (h : laidMetH Tryd.prog laidL W) : W.cell? ⟨0, 0, none⟩ = some (.iface 82 (.agg #[.pointer (some ⟨2, 51, none⟩)])) := by
  have h' : laidMet Tryd.prog [] W ∧ handlesMet Tryd.prog laidL W := h
  obtain ⟨name, u, ty, e1, e2, e3, e4, e5⟩ := h'.2 _ (List.mem_singleton.2 rfl)
  have en : name = [101, 114, 114, 111, 114] := (Option.some.inj e1).symm
  subst en
  obtain rfl := Option.some.inj (lw_rt.symm.trans e2)
  have hm : ty ∈ (List.range 141).filter fun t => Tryd.prog.rowNamed t [101, 114, 114, 111, 114] := List.mem_filter.2 ⟨List.mem_range.2 (by rw [← lw_size]; exact e3), e4⟩
  rw [lw_one] at hm
  obtain rfl := List.mem_singleton.1 hm
  have hh : typeHandle Tryd.prog 51 = .pointer (some ⟨2, 51, none⟩) := by kernel_rfl
  rw [hh] at e5
  simpa using World.var?_cell lw_et e5 0
theorem glob_of_laid {W : World} (h : laidMetH Tryd.prog laidL W) : Glob W := fun x hx => by
  have hc := handle_of_laid h
  obtain rfl := (Option.some.inj hx).symm
  refine ⟨?_, hc⟩
  simp only [World.cell?] at hc
  split at hc
  · rename_i hg; exact (Array.getElem?_eq_some_iff.1 hg).1
  · cases hc
/-- A world that meets the condition. -/
noncomputable def laidWorld (os : Os) : World :=
  let w0 := World.holding Tryd.prog os ⟨#[], #[], []⟩
  { w0 with heap := w0.heap.modify 0 fun
      | .cells _ t frozen => .cells #[.iface 82 (.agg #[.pointer (some ⟨2, 51, none⟩)])] t frozen
      | o => o }
theorem laidWorld_met (os : Os) (args : Array Value) : laidMetH Tryd.prog laidL ((laidWorld os).forCall (fun _ _ => 0) ⟨#[], args, []⟩).memory :=
  laidMetH_of_parts (laidMet_nil _ _) (by kernel_rfl)
end Go.Ab.Tryd
