/- A move leans on nothing in memory: it may come up amid what turns there. -/
import Derived.Test.YtlgfbiepbneihaaDE
namespace Go.Ab
open Go.RowKit
set_option linter.unusedVariables false
set_option linter.unusedSimpArgs false
set_option linter.unnecessarySimpa false
section
variable {P : Program} {z : Ini} {ops : List Oper} {i : Nat} {l : List Oper} {s : RS} {o : Oper}
theorem LS.step0 {j : Nat} {r : AV} {d : List (Nat × ABlk)} {p : Path} (hs : ∀ h', stepv P (evG p s.t s.g) s.h.length h' o.op = some (r, d)) : LS P z ops j o s ⟨r, d, p, []⟩ := by
  intro C h' c w ρ hC hp hn hft hu M hfn hev
  classical
  let ev' : Operand → AV := fun x => if x ∈ o.op.operands then evG p s.t s.g x else .any
  have e1 : stepv P ev' s.h.length h' o.op = some (r, d) := by
    rw [← stepv_ev (ev := evG p s.t s.g) (fun x hx => by simp [ev', hx])]; exact hs h'
  refine stepv_yields M (fun x => ?_) hn hu e1
  by_cases hx : x ∈ o.op.operands
  · simp only [ev', if_pos hx]; exact hev x hx p hp
  · simp only [ev', if_neg hx]; exact .any _
theorem ARE.mv {es : List PE} {K : List PE → RS → Prop} {x : Operand} {v : AV} {p : Path} (ho : o.op = .move x) (hp : pG ops s.g o.guard = p) (hg : gOkB ops i s.t o.guard = true) (hv : evG p s.t s.g x = v)
    (k : ARE P z ops (i + 1) l ⟨putT s.t o.dst v, putG s.g o.dst p, s.h⟩ (⟨v, [], p, []⟩ :: es) K) : ARE P z ops i (o :: l) s es K :=
  ARE.op (e := ⟨v, [], p, []⟩) ⟨hp.symm, fun _ => rfl, gOkB_spec hg, fun _ => LS.step0 fun h' => by rw [ho]; simp only [stepv, hv]⟩ k
end
end Go.Ab
