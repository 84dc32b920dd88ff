/- An element of an array that stands in a row of the call's own slice; of a list's row, where the order is drawn. -/
import Derived.Test.YtlgfbiepbneihaaDH
namespace Go.Ab
open Go.RowKit
set_option linter.unusedVariables false
set_option linter.unusedSimpArgs false
set_option linter.unnecessarySimpa false
section
variable {P : Program} {z : Ini} {ops : List Oper} {i : Nat} {l : List Oper} {s : RS} {o : Oper}
theorem LS.vex {q n sz szr b r : Nat} {g : Bool} {T e : TypeId} {x y : Operand} {rows : List (List PV)} {off : Nat} {k : IntKind} {j : Int} {p : Path} (ho : o.op = .indexAddr T x y) (hT : tk P T = .arr n e sz g) (hx : evG p s.t s.g x = .ve b r off) (hb : s.h[b]? = some (.vec szr rows)) (hy : evG p s.t s.g y = .pv (.int k j)) (hj : 0 ≤ j ∧ j < n) (hs : 0 < sz) :
    LS P z ops q o s ⟨.ve b r (off + j.toNat * sz), [], p, [b]⟩ := by
  intro C h' c w ρ hC hp hn hft hu M hfn hev
  obtain ⟨hu', hsz, _⟩ := tk_arr hT
  have vx := hev x (by simp [ho, Op.operands]) p hp
  have vy := hev y (by simp [ho, Op.operands]) p hp
  rw [hx] at vx
  rw [hy] at vy
  have ey : ρ y = .int k j := by cases vy with | pv _ _ hr => generalize ρ y = u at hr; cases hr; rfl
  have hb' : h'[b]? = some (.vec szr rows) := by
    rcases hft b (by simp) with e | ⟨e, _⟩
    · rw [e]; exact hb
    · rw [hb] at e; cases e
  have hptr : ∃ a, ρ x = .pointer (some a) := by
    cases vx with
    | ve _ _ _ _ b2 ho2 hi2 hb2 hv2 =>
      rw [hb'] at hi2; injection hi2 with hi2; subst hi2
      exact ⟨_, hv2 _ _ rfl⟩
  obtain ⟨a, ea, ra⟩ := vx.shift (n := j.toNat * sz) rfl hptr
  refine Yields.val M (v := .pointer (some (a.add (j.toNat * sz)))) ?_ ra
  simp [execOp, ho, ea, ey, Instr.indexAt, asIntOf, run_underlying hu', Instr.sureAddr, hj, szOf_run hsz hs]
theorem ARN.vex {K : RS → Prop} {n sz szr b r : Nat} {g : Bool} {T e : TypeId} {x y : Operand} {rows : List (List PV)} {off : Nat} {k : IntKind} {j : Int} {p : Path} {s1 : RS} (ho : o.op = .indexAddr T x y) (hp : pG ops s.g o.guard = p) (hg : gOkB ops i s.t o.guard = true) (hT : tk P T = .arr n e sz g) (hx : evG p s.t s.g x = .ve b r off) (hb : s.h[b]? = some (.vec szr rows)) (hy : evG p s.t s.g y = .pv (.int k j)) (hj : 0 ≤ j ∧ j < n) (hs : 0 < sz)
    (h1 : (⟨putT s.t o.dst (.ve b r (off + j.toNat * sz)), putG s.g o.dst p, s.h⟩ : RS) = s1) (h : ARN P z ops (i + 1) l s1 K) : ARN P z ops i (o :: l) s K := by
  subst h1
  exact ARN.op (e := ⟨.ve b r (off + j.toNat * sz), [], p, [b]⟩) ⟨hp.symm, fun _ => rfl, gOkB_spec hg, fun _ => LS.vex ho hT hx hb hy hj hs⟩ h
theorem ARE.elx {K : List PE → RS → Prop} {es : List PE} {n sz : Nat} {g : Bool} {T e : TypeId} {x y : Operand} {row : List PV} {off : Nat} {k : IntKind} {j : Int} {p : Path} {s1 : RS} (ho : o.op = .indexAddr T x y) (hp : pG ops s.g o.guard = p) (hg : gOkB ops i s.t o.guard = true) (hT : tk P T = .arr n e sz g) (hx : evG p s.t s.g x = .el row off) (hy : evG p s.t s.g y = .pv (.int k j)) (hj : 0 ≤ j ∧ j < n) (hs : 0 < sz)
    (h1 : (⟨putT s.t o.dst (.el row (off + j.toNat * sz)), putG s.g o.dst p, s.h⟩ : RS) = s1) (h : ARE P z ops (i + 1) l s1 (⟨.el row (off + j.toNat * sz), [], p, []⟩ :: es) K) : ARE P z ops i (o :: l) s es K := by
  subst h1
  exact ARE.op (e := ⟨.el row (off + j.toNat * sz), [], p, []⟩) ⟨hp.symm, fun _ => rfl, gOkB_spec hg, fun _ => LS.elx ho hT hx hy hj hs⟩ h
end
end Go.Ab
