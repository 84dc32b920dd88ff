/- Lists that say less, element by element; inputs that are lists of such. -/
import Derived.Test.YtknlgjeeenkleaaDA
import Derived.Test.YtknlgjeeenkleaaE2
namespace Go.Ab
set_option linter.unusedVariables false
set_option linter.unusedSimpArgs false
def SubLL : List (List PV) → List (List PV) → Prop
  | [], [] => True
  | r :: rs, q :: qs => SubL r q ∧ SubLL rs qs
  | _, _ => False
theorem SubLL_get : ∀ {rs qs : List (List PV)}, SubLL rs qs → rs.length = qs.length ∧ ∀ (k : Nat) (q : List PV), qs[k]? = some q → ∃ r, rs[k]? = some r ∧ SubL r q
  | [], [], _ => ⟨rfl, fun k q h => by simp at h⟩
  | r :: rs, q :: qs, h => by
    obtain ⟨h1, h2⟩ := SubLL_get h.2
    refine ⟨by simp [h1], fun k x hk => ?_⟩
    cases k with
    | zero => simp at hk; subst hk; exact ⟨r, rfl, h.1⟩
    | succ k => exact h2 k x (by simpa using hk)
  | [], _ :: _, h => h.elim
  | _ :: _, [], h => h.elim
theorem Sub.lst {b : Bool} {sz : Nat} {rows qs : List (List PV)} (h : SubLL rows qs) : Sub (.lst b sz rows) (.lst false sz qs) := fun ok w v hr => by
  obtain ⟨h1, h2⟩ := SubLL_get h
  cases hr with
  | lst _ _ _ A c us hlen hc hf hA hcell hrep =>
    rw [h1]
    refine .lst false sz qs A c us (fun j q hj => ?_) (by omega) (fun h => by cases h) (by rw [← h1]; exact hA) (fun ad e j q k p hj hk => ?_) (fun j q k p hj hk => ?_)
    · obtain ⟨r, hr, hs⟩ := h2 j q hj
      rw [← (SubL_get hs).1]; exact hlen j r hr
    · obtain ⟨r, hr, hs⟩ := h2 j q hj
      obtain ⟨p', hp', _⟩ := (SubL_get hs).2 k p hk
      exact hcell ad e j r k p' hr hp'
    · obtain ⟨r, hr, hs⟩ := h2 j q hj
      obtain ⟨p', hp', hsub⟩ := (SubL_get hs).2 k p hk
      exact hsub _ _ _ (hrep j r k p' hr hp')
theorem rows_mapP {α : Type} (f : α → List PV) (p : α → Prop) : ∀ {rows : List (List PV)}, (∀ row, row ∈ rows → ∃ x, row = f x ∧ p x) → ∃ m : List α, rows = m.map f ∧ ∀ x ∈ m, p x
  | [], _ => ⟨[], rfl, fun x hx => by simp at hx⟩
  | r :: rows, h => by
    obtain ⟨x, hx, px⟩ := h r (by simp)
    obtain ⟨m, hm, hp⟩ := rows_mapP f p (rows := rows) fun row hr => h row (by simp [hr])
    refine ⟨x :: m, by simp [hx, hm], fun y hy => ?_⟩
    simp at hy
    rcases hy with rfl | hy
    · exact px
    · exact hp y hy
end Go.Ab
