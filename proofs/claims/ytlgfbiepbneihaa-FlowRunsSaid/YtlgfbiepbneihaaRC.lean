/- A run comes only to places that it may come to; where nothing goes round it ends. -/
import Derived.Test.YtlgfbiepbneihaaRB
namespace Go.Ab.Try
open Go.Proofs Go.Ab
set_option linter.unusedVariables false
set_option linter.unusedSimpArgs false
set_option linter.unnecessarySimpa false
variable {code : List Ins} {inp : List Int} {most : Int}
theorem next_pc {s : St} (hc : OkC code) (hL : code.length ≤ 100) (he : s.en = 0) (ht : (stepS code inp most s).en = 0) : (stepS code inp most s).pc ∈ nextS code s.pc := by
  have := step_sim (inp := inp) (most := most) (g := s.r) hc hL he (fun r _ _ => rfl)
  obtain ⟨g', _, h⟩ := this
  exact (h ht).1
/-- Where a run was. -/
structure Hst (code : List Ins) (V : List Int) (p : Int) : Prop where
  r : ∀ a ∈ V, Rch code zeS a
  f : ∀ a ∈ V, a = p ∨ Rch code (neS code a) p
  m : p ∈ V
  n : loopB code = false → V.Nodup
theorem Hst.start : Hst code [0] 0 := ⟨fun a h => by simp at h; subst h; exact .here rfl, fun a h => by simp at h; exact .inl h, by simp, fun _ => by simp⟩
theorem Hst.next {V : List Int} {p x : Int} (h : Hst code V p) (hx : x ∈ nextS code p) : Hst code (V ++ [x]) x := by
  have hf : ∀ a ∈ V, Rch code (neS code a) x := fun a ha => by
    rcases h.f a ha with rfl | q
    · exact .here hx
    · exact .go q hx
  have hr : Rch code zeS x := .go (h.r p h.m) hx
  refine ⟨fun a ha => ?_, fun a ha => ?_, by simp, fun hl => ?_⟩
  · rcases List.mem_append.1 ha with q | q
    · exact h.r a q
    · have := List.mem_singleton.1 q; subst this; exact hr
  · rcases List.mem_append.1 ha with q | q
    · exact .inr (hf a q)
    · exact .inl (List.mem_singleton.1 q)
  · rw [List.nodup_append]
    refine ⟨h.n hl, by simp, fun a ha b hb e => ?_⟩
    have := List.mem_singleton.1 hb; subst this; subst e
    have := loopB_yes hr (hf a ha)
    rw [hl] at this; cases this
theorem Hst.few {V : List Int} {p : Int} (h : Hst code V p) (hc : OkC code) (hL : code.length ≤ 100) (hl : loopB code = false) : V.length ≤ code.length + 1 :=
  nodup_bound (code.length + 1) V (h.n hl) fun a ha => by have := (h.r a ha).inn hc (by omega) ze_in; unfold InC at this; omega
/-- What holds ahead of each step of a run. -/
structure RunI (code : List Ins) (s : St) (i : Int) : Prop where
  h : s.en = 0 → ∃ V, Hst code V s.pc ∧ (V.length : Int) = s.steps + 1
  i0 : s.en = 0 → s.steps = i
  st : loopB code = false → s.steps ≤ code.length + 1
  p : 0 ≤ s.steps ∧ s.steps ≤ i
theorem RunI.start {D : List Int} {l : List Pn} {e n : Int} : RunI code (startS D l e n) 0 := ⟨fun _ => ⟨[0], .start, rfl⟩, fun _ => rfl, fun _ => by show (0 : Int) ≤ _; omega, by exact ⟨Int.le_refl 0, Int.le_refl 0⟩⟩
theorem RunI.pc {s : St} {i : Int} (v : RunI code s i) (hc : OkC code) (hL : code.length ≤ 100) (he : s.en = 0) : InC code s.pc ∧ rB code zeS s.pc = true := by
  obtain ⟨V, h, _⟩ := v.h he
  have := h.r _ h.m
  exact ⟨this.inn hc (by omega) ze_in, rB_iff.2 this⟩
theorem RunI.next {s : St} {i : Int} (v : RunI code s i) (hc : OkC code) (hL : code.length ≤ 100) (he : s.en = 0) (hi : i ≤ 1000) : RunI code (stepS code inp most s) (i + 1) := by
  have e := step_steps (code := code) (inp := inp) (most := most) he
  have hp := v.p
  rw [w64 (by omega) (by omega)] at e
  obtain ⟨V, h, hV⟩ := v.h he
  refine ⟨fun ht => ⟨V ++ [(stepS code inp most s).pc], h.next (next_pc hc hL he ht), by rw [e]; simp; omega⟩, fun _ => by rw [e, v.i0 he], fun hl => ?_, by rw [e]; omega⟩
  have := h.few hc hL hl
  rw [e]; omega
theorem RunI.fin {s : St} {i : Int} (v : RunI code s i) (hc : OkC code) (hL : code.length ≤ 70) (h : ¬ (i < 200 ∧ s.en = 0)) (hi : i ≤ 200) (hl : loopB code = false) : ¬ s.en = 0 ∧ s.steps ≤ code.length + 1 := by
  refine ⟨fun he => ?_, v.st hl⟩
  have := v.i0 he
  obtain ⟨V, hh, hV⟩ := v.h he
  have := hh.few hc (by omega) hl
  omega
end Go.Ab.Try
