/- An element of an array that stands in a list's row. -/
import Derived.Test.YtlgfbiepbneihaaDG
namespace Go.Ab
open Go.RowKit
set_option linter.unusedVariables false
set_option linter.unusedSimpArgs false
set_option linter.unnecessarySimpa false
section
variable {P : Program} {z : Ini} {ops : List Oper} {i : Nat} {l : List Oper} {s : RS} {o : Oper}
theorem LS.elx {q n sz : Nat} {g : Bool} {T e : TypeId} {x y : Operand} {row : List PV} {off : Nat} {k : IntKind} {j : Int} {p : Path} (ho : o.op = .indexAddr T x y) (hT : tk P T = .arr n e sz g) (hx : evG p s.t s.g x = .el row off) (hy : evG p s.t s.g y = .pv (.int k j)) (hj : 0 ≤ j ∧ j < n) (hs : 0 < sz) :
    LS P z ops q o s ⟨.el row (off + j.toNat * sz), [], p, []⟩ := by
  intro C h' c w ρ hC hp hn hft hu M hfn hev
  obtain ⟨hu', hsz, _⟩ := tk_arr hT
  have vx := hev x (by simp [ho, Op.operands]) p hp
  have vy := hev y (by simp [ho, Op.operands]) p hp
  rw [hx] at vx
  rw [hy] at vy
  have ey : ρ y = .int k j := by cases vy with | pv _ _ hr => generalize ρ y = u at hr; cases hr; rfl
  generalize ex : ρ x = vv at vx
  cases vx with
  | el _ _ a us hcell =>
    refine Yields.val M (v := .pointer (some (a.add (off + j.toNat * sz)))) ?_ (.el row _ a us hcell)
    rw [← Addr.add_add]
    simp [execOp, ho, ex, ey, Instr.indexAt, asIntOf, run_underlying hu', Instr.sureAddr, hj, szOf_run hsz hs]
/-- An element of an array that stands in a list's row. -/
theorem ARN.elx {K : RS → Prop} {n sz : Nat} {g : Bool} {T e : TypeId} {x y : Operand} {row : List PV} {off : Nat} {k : IntKind} {j : Int} {p : Path} {s1 : RS} (ho : o.op = .indexAddr T x y) (hp : pG ops s.g o.guard = p) (hg : gOkB ops i s.t o.guard = true) (hT : tk P T = .arr n e sz g) (hx : evG p s.t s.g x = .el row off) (hy : evG p s.t s.g y = .pv (.int k j)) (hj : 0 ≤ j ∧ j < n) (hs : 0 < sz)
    (h1 : (⟨putT s.t o.dst (.el row (off + j.toNat * sz)), putG s.g o.dst p, s.h⟩ : RS) = s1) (h : ARN P z ops (i + 1) l s1 K) : ARN P z ops i (o :: l) s K := by
  subst h1
  exact ARN.op (e := ⟨.el row (off + j.toNat * sz), [], p, []⟩) ⟨hp.symm, fun _ => rfl, gOkB_spec hg, fun _ => LS.elx ho hT hx hy hj hs⟩ h
end
section
variable {P : Program} {z : Ini} {ops : List Oper}
theorem ARN.runK {K : RS → Prop} (k : Nat) : ∀ {i i' : Nat} {l : List Oper} {s s' : RS}, runN P ops i (l.take k) s = (i', [], s') → ARN P z ops i' (l.drop k) s' K → ARN P z ops i l s K := by
  induction k with
  | zero =>
    intro i i' l s s' he h
    simp only [List.take_zero, runN, Prod.mk.injEq] at he
    obtain ⟨rfl, _, rfl⟩ := he
    simpa using h
  | succ k ih =>
    intro i i' l s s' he h
    cases l with
    | nil =>
      simp only [List.take_nil, runN, Prod.mk.injEq] at he
      obtain ⟨rfl, _, rfl⟩ := he
      simpa using h
    | cons o l =>
      simp only [List.take_succ_cons, runN, onB, onS] at he
      split at he
      · rename_i hg
        split at he
        · rename_i r hs
          exact ARN.op (stepR_ok rfl hg hs) (ih he (by simpa using h))
        · simp at he
      · simp at he
theorem ARN.off {i : Nat} {l : List Oper} {s : RS} {o : Oper} {pp : Path} {K : RS → Prop} {s1 : RS} (hp : pG ops s.g o.guard = pp) (hg : gOkB ops i s.t o.guard = true) (hn : ppF ops s.t pp = true) (he : (⟨putT s.t o.dst (.pv (.bool false)), putG s.g o.dst pp, s.h⟩ : RS) = s1)
    (k : ARN P z ops (i + 1) l s1 K) : ARN P z ops i (o :: l) s K := by
  subst he
  exact ARN.op (e := ⟨.pv (.bool false), [], pp, []⟩) ⟨hp.symm, fun _ => rfl, gOkB_spec hg, fun hh => (ppF_not hn hh).elim⟩ k
end
end Go.Ab
