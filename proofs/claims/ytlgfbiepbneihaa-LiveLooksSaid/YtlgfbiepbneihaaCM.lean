/- The plain laws of clauses counted. -/
import Derived.Test.YtlgfbiepbneihaaCL
import Derived.Test.YtlgfbiepbneihaaKD
namespace Go.Ab
set_option linter.unusedVariables false
set_option linter.unusedSimpArgs false
theorem good_append (k : Nat) (l : List (List Int)) (c : List Int) (j : Nat) : good k (l ++ [c]) j = (good k l j && clH (tr k j) c) := by
  unfold good
  rw [Bool.eq_iff_iff]
  simp only [decide_eq_true_eq, Bool.and_eq_true, fb_neg, List.mem_append, List.mem_singleton]
  constructor
  · intro h; exact ⟨fun c' hc => h c' (.inl hc), h c (.inr rfl)⟩
  · rintro ⟨h1, h2⟩ c' (hc | rfl)
    · exact h1 c' hc
    · exact h2
theorem hold_two {u : Int} {m : List Bool} (h : 0 ≤ u) : hold (2 * u) m = m.getD u.toNat false := by
  unfold hold; rw [if_neg (by omega)]
  have e1 : ofV (2 * u) = u := by unfold ofV; rw [if_neg (by omega)]; omega
  have e2 : ofN (2 * u) = false := by unfold ofN; simp
  rw [e1, e2]; simp
theorem hold_two1 {u : Int} {m : List Bool} (h : 0 ≤ u) : hold (2 * u + 1) m = !(m.getD u.toNat false) := by
  unfold hold; rw [if_neg (by omega)]
  have e1 : ofV (2 * u + 1) = u := by unfold ofV; rw [if_neg (by omega)]; omega
  have e2 : ofN (2 * u + 1) = true := by unfold ofN; simp; omega
  rw [e1, e2]; simp
theorem cnt_parts (k : Nat) (l : List (List Int)) {u : Int} (h : 0 ≤ u) (i : Nat) : cnt k (l ++ [[2 * u]]) i + cnt k (l ++ [[2 * u + 1]]) i = cnt k l i := by
  induction i with
  | zero => rfl
  | succ i ih =>
    simp only [cnt, good_append, clH, List.any_cons, List.any_nil, Bool.or_false, hold_two h, hold_two1 h]
    cases good k l i <;> cases (tr k i).getD u.toNat false <;> simp <;> omega
theorem chk_app {vars : Int} {l : List (List Int)} {x : Int} (h : chkC vars l = 0) (hl : l.length ≤ 60) (h0 : 0 ≤ x) (hx : x < 2 * vars) : chkC vars (l ++ [[x]]) = 0 := by
  unfold chkC at h ⊢
  by_cases hv : vars < 0 ∨ 1048576 < vars
  · rw [if_pos hv] at h; omega
  · rw [if_neg hv] at h ⊢
    rw [if_neg (by omega)] at h
    rw [if_neg (by simp; omega)]
    by_cases hb : l.any (fun c => c.any (badX vars)) = true
    · rw [if_pos hb] at h; omega
    · rw [if_neg]
      rw [List.any_append]
      simp only [Bool.not_eq_true] at hb
      rw [hb]
      simp [badX]; omega
theorem parts_law {vars : Int} {l : List (List Int)} {u : Int} (h : chkC vars l = 0) (hl : l.length ≤ 60) (h1 : 1 ≤ vars) (h8 : vars ≤ 8) (h0 : 0 ≤ u) (hu : u < vars) :
    cntV vars (l ++ [[2 * u]]) + cntV vars (l ++ [[2 * u + 1]]) = cntV vars l ∧ 0 ≤ cntV vars l ∧ cntV vars l ≤ 65536 := by
  have m0 : mayC vars l = 0 := by unfold mayC; rw [if_pos h, if_neg (by omega)]
  have m1 : mayC vars (l ++ [[2 * u]]) = 0 := by unfold mayC; rw [if_pos (chk_app h hl (by omega) (by omega)), if_neg (by omega)]
  have m2 : mayC vars (l ++ [[2 * u + 1]]) = 0 := by unfold mayC; rw [if_pos (chk_app h hl (by omega) (by omega)), if_neg (by omega)]
  unfold cntV
  rw [if_pos m0, if_pos m1, if_pos m2]
  have := cnt_rng vars.toNat l (2 ^ vars.toNat)
  have := pow_le (v := vars) (by omega)
  exact ⟨cnt_parts _ _ h0 _, by omega, by omega⟩
theorem few_len {l : List (List Int)} {most : Int} (h : ¬ fewC l most = 0) : (l.length : Int) ≤ most := by
  unfold fewC at h
  by_cases hh : most < (l.length : Int)
  · rw [if_pos hh] at h; omega
  · omega
theorem mF_len (vars : Int) (l : List (List Int)) : ((mF vars l).length : Int) ≤ 9223372036854775807 := by
  unfold mF
  split
  · rename_i h
    rw [tr_length]
    unfold okF at h
    have := may_rng (of_decide_eq_true h).1
    omega
  · simp
theorem wf_app {l : List (List Int)} {x : Int} (h : Wf l) (hl : l.length ≤ 60) (hx : I64 x) : Wf (l ++ [[x]]) := by
  refine ⟨by simp; omega, fun c hc => ?_⟩
  rw [List.mem_append, List.mem_singleton] at hc
  rcases hc with hc | rfl
  · exact h.2 c hc
  · exact ⟨by simp, fun y hy => by simp at hy; subst hy; exact hx⟩
theorem SubLL_refl : ∀ (rs : List (List PV)), SubLL rs rs
  | [] => trivial
  | r :: rs => ⟨SubL.refl r, SubLL_refl rs⟩
theorem SubLL_app {rs : List (List PV)} {a b : List (List PV)} (h : SubLL a b) : SubLL (rs ++ a) (rs ++ b) := by
  induction rs with
  | nil => exact h
  | cons r rs ih => exact ⟨SubL.refl r, ih⟩
theorem sub_cl (b : Bool) (c : List Int) : Sub (cl b c) (cl false c) := Sub.full _ _ b
theorem sub_cls1 {b : Bool} {l : List (List Int)} : Sub (.lst b 1 (l.map fun c => [cl true c])) (cls l) := by
  refine Sub.lst ?_
  induction l with
  | nil => exact trivial
  | cons c l ih => exact ⟨⟨sub_cl true c, trivial⟩, ih⟩
theorem sub_app {l : List (List Int)} {x : Int} : Sub (.lst false 1 ((l.map fun c => [cl false c]) ++ [[cl true [x]]])) (cls (l ++ [[x]])) := by
  have : cls (l ++ [[x]]) = .lst false 1 ((l.map fun c => [cl false c]) ++ [[cl false [x]]]) := by simp [cls]
  rw [this]
  exact Sub.lst (SubLL_app ⟨⟨sub_cl true [x], trivial⟩, trivial⟩)
theorem AWL.runGP {P : Program} {z : Ini} {ops : Array Oper} {l l1 l2 : List Oper} {σ σ' : St} {Q : Exit → St → Prop} (k : Nat) (h1 : l.take k = l1) (h2 : l.drop k = l2) (he : Ab.runG P ops.toList l1 σ = ([], σ')) (h : AWL P z ops l2 σ' Q) : AWL P z ops l σ Q := by
  have key : ∀ (l1 : List Oper) (σ : St), Ab.runG P ops.toList l1 σ = ([], σ') → AWL P z ops (l1 ++ l2) σ Q := by
    intro l1
    induction l1 with
    | nil => intro σ he; simp only [Ab.runG] at he; injection he with _ he; subst he; exact h
    | cons o l1 ih =>
      intro σ he
      simp only [Ab.runG, onS] at he
      split at he
      · rename_i x hs
        exact .next2 hs (ih _ he)
      · injection he with he _; cases he
  have := key l1 σ he
  rw [← h1, ← h2, List.take_append_drop] at this
  exact this
end Go.Ab
