/- Machines: which are few; starts; what a law is given. -/
import Derived.Test.YtlgfbiepbneihaaVB
namespace Go.Ab.Try
open Go.Proofs Go.Ab
set_option linter.unusedVariables false
set_option linter.unusedSimpArgs false
set_option linter.unnecessarySimpa false
variable {code : List Ins} {inp : List Int} {most fuel : Int}
theorem few_is {s : St} (h : ¬ fewS s = 0) : s.C.length ≤ 300 ∧ s.D.length ≤ 100 ∧ s.l.length ≤ 60 := by
  unfold fewS at h; split at h
  · exact absurd rfl h
  · rename_i h1
    have := few_1 (D := s.D) (l := s.l) (fun q => h1 (.inr q))
    exact ⟨by omega, this.1, this.2⟩
structure WfS (s : St) : Prop where
  rw : ∀ j, InR8 j → W64 (s.r.get j)
  cw : ∀ x ∈ s.C, W64 x
  dw : ∀ x ∈ s.D, W64 x
  lw : ∀ p ∈ s.l, W64 p.2.1
theorem WfS.ok {s : St} (h : WfS s) (hf : ¬ fewS s = 0) : OkS s 60 := ⟨h.rw, (few_is hf).1, h.cw, (few_is hf).2.1, h.dw, (few_is hf).2.2, h.lw⟩
theorem start_ok {D : List Int} {l : List Pn} {e n : Int} (hD : ∀ x ∈ D, W64 x) (hl : ∀ p ∈ l, W64 p.2.1) (hf : ¬ fewD D l = 0) : OkS (startS D l e n) 60 := by
  have := few_1 hf
  refine ⟨fun j hj => ?_, ?_, fun x hx => ?_, this.1, hD, this.2, hl⟩
  · rcases hj.cases with rfl | rfl | rfl | rfl | rfl | rfl | rfl | rfl <;> exact w0
  · show (List.replicate (clsN n).toNat (0 : Int)).length ≤ 300
    rw [List.length_replicate]; unfold clsN; split <;> omega
  · have : x = 0 := List.eq_of_mem_replicate hx
    subst this; exact w0
theorem OkS.c6 {s : St} {N : Nat} (h : OkS s N) : s.C.length ≤ 1000000 := by have := h.cN; omega
def playV (code : List Ins) (inp : List Int) (D : List Int) (l : List Pn) (e n fuel most : Int) : PV := .agg [.lst false 5 (code.map inR), .lst false 1 (inp.map byR), .lst false 1 (D.map wdR), .lst false 3 (l.map pnR), .int .i64 e, .int .i64 n, .int .i64 fuel, .int .i64 most]
def plA (code : List Ins) (inp : List Int) (D : List Int) (l : List Pn) (e n fuel most : Int) : List AV := [.pv (.lst false 5 (code.map inR)), .pv (.lst false 1 (inp.map byR)), .pv (.lst false 1 (D.map wdR)), .pv (.lst false 3 (l.map pnR)), .pv (.int .i64 e), .pv (.int .i64 n), .pv (.int .i64 fuel), .pv (.int .i64 most)]
attribute [go_sem] playV plA
end Go.Ab.Try
