/- A program that may be has bytes, and is loaded from them. -/
import Derived.Test.YtalgjggmhhdkkaaDoorNA
namespace Go.Ab.Tryd
open Go.Proofs Go.Ab
set_option linter.unusedVariables false
set_option linter.unusedSimpArgs false
set_option linter.unnecessarySimpa false
theorem reg_byt {x : Int} {h : Bool} (k1 : ¬ (h = false ∧ x ≠ 0)) (k2 : ¬ (h = true ∧ (x < 0 ∨ 7 < x))) : byt x := by
  unfold byt
  cases h with
  | false => have : x = 0 := Classical.byContradiction fun q => k1 ⟨rfl, q⟩
             omega
  | true => have : ¬ (x < 0 ∨ 7 < x) := fun q => k2 ⟨rfl, q⟩
            omega
theorem check_byt {i : Ins} {r n : Int} (h : checkE i.1 i.2.1 i.2.2.1 i.2.2.2.1 i.2.2.2.2 r n = 0) : okI i := by
  unfold checkE at h
  split at h
  · rename_i hf
    unfold fieldsE at hf
    split at hf
    · cases hf
    · rename_i h1
      split at hf
      · cases hf
      · rename_i h2
        split at hf
        · cases hf
        · rename_i h3
          simp only [not_or] at h1 h2 h3
          exact ⟨by unfold byt; omega, reg_byt h2.1 h3.1, reg_byt h2.2.1 h3.2.1, reg_byt h2.2.2.1 h3.2.2⟩
  · rename_i hf; exact absurd h hf
theorem badF_all {l : List Ins} {r : Int} : ∀ {n i : Nat}, (badF l r n i).2 = 0 → ∀ j, i ≤ j → j < i + n → badI l r j = 0
  | 0, i, _, j, h1, h2 => by omega
  | n + 1, i, h, j, h1, h2 => by
    rw [badF] at h
    split at h
    · rename_i h0
      by_cases e : j = i
      · subst e; exact h0
      · exact badF_all h j (by omega) (by omega)
    · rename_i h0; exact absurd h h0
theorem code_ok {l : List Ins} {r : Int} (h : (codeE l r).2 = 0) : okK l := by
  have hl := codeE_len h
  rw [codeE_in hl] at h
  intro i hi
  obtain ⟨j, hj, e⟩ := List.getElem_of_mem hi
  have := badF_all h j (by omega) (by omega)
  unfold badI at this
  rw [show l.getD j i0 = i by simp [List.getD_eq_getElem?_getD, hj, e]] at this
  exact check_byt this
theorem check_form {p : Pg} (h : (checkP p).2.2 = 0) : formOk p := by
  unfold checkP at h
  split at h
  · cases h
  · split at h
    · contradiction
    · rename_i h0
      split at h
      · contradiction
      · rename_i h1
        split at h
        · contradiction
        · rename_i h2
          exact ⟨code_ok (Classical.not_not.1 h0), code_ok (Classical.not_not.1 h1), code_ok (Classical.not_not.1 h2)⟩
theorem check_put {p : Pg} (h : (checkP p).2.2 = 0) : sizeOk p ∧ formOk p := by
  have k := check_in h
  refine ⟨⟨⟨by have := k.b1; omega, by have := k.b8; omega⟩, ⟨k.c1, by have := k.c8; omega⟩, by have := k.d; have := k.b8; omega, by have := k.l0; omega, by have := k.l1; omega, by have := k.l2; omega⟩, check_form h⟩
theorem load_put {p : Pg} (w : OkPg p) (h : (checkP p).2.2 = 0) : loadL (putL p) = (p, 0) := by
  unfold loadL
  rw [back_same w, if_pos rfl, if_pos h]
end Go.Ab.Tryd
