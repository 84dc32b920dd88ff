/- The contract of subset.Masks. -/
import Derived.Test.YtknlgjeeenkleaaF3
import Derived.Test.YtknlgjeeenkleaaSbG
namespace Go.Ab.Try
open Go.Proofs Go.RowKit Go.Ab
set_option linter.unusedVariables false
set_option linter.unusedSimpArgs false
theorem mkA_is (l : List Pn) (N : Nat) : mkA (alw l) N = mksN l N := rfl
theorem rep_row {w w' : World} {ok : Nat → Prop} {v : Value} {xs : List Int} (h : w'.ownsRow w.heap.size 3 1 v xs.length (xs.map iV)) : Rep (fun b => ok b ∨ (w.heap.size ≤ b ∧ b < w'.heap.size)) w' (.lst false 1 (xs.map inR)) v := by
  obtain ⟨_, h2⟩ := h
  rcases h2 with ⟨rfl, h0⟩ | ⟨g, cap, cur, rfl, hb, hg, hc, hm, hs, ht⟩
  · obtain rfl : xs = [] := List.eq_nil_of_length_eq_zero h0
    exact (Sub.nil0 1 1 true) _ _ _ (rep_nil _ _ _)
  · have hlt : g < w'.heap.size := (Array.getElem?_eq_some_iff.1 hg).1
    have key : ∀ (j : Nat) (x : Int), xs[j]? = some x → w'.cell? ⟨g, j, none⟩ = some (iV x) := fun j x hj => by
      have hjl : j < xs.length := (List.getElem?_eq_some_iff.1 hj).1
      have e : (cur.toList.take (xs.length * 1))[j]? = (xs.map iV)[j]? := by rw [ht]
      rw [List.getElem?_take_of_lt (by omega), List.getElem?_map, hj] at e
      simp [World.cell?, hg]
      simpa using e
    have := Rep.lst (ok := fun b => ok b ∨ (w.heap.size ≤ b ∧ b < w'.heap.size)) (w := w') false 1 (xs.map inR) (some ⟨g, 0, none⟩) cap (fun j _ => iV (xs.getD j 0))
      (fun j row hj => by simp only [List.getElem?_map, Option.map_eq_some_iff] at hj; obtain ⟨x, _, rfl⟩ := hj; rfl) (by simpa using hc) (fun h => by cases h) (fun _ => ⟨_, rfl⟩)
      (fun ad e j row k p hj hk => by
        injection e with e; subst e
        simp only [List.getElem?_map, Option.map_eq_some_iff] at hj
        obtain ⟨x, hx, rfl⟩ := hj
        match k with
        | 0 =>
          refine ⟨.inr ⟨hb, hlt⟩, ?_, rfl⟩
          rw [Addr.add_plain, Nat.zero_add, Nat.mul_one, Nat.add_zero, key j x hx]
          simp [hx]
        | k + 1 => simp [inR] at hk)
      (fun j row k p hj hk => by
        simp only [List.getElem?_map, Option.map_eq_some_iff] at hj
        obtain ⟨x, hx, rfl⟩ := hj
        match k with
        | 0 => simp [inR] at hk; subst hk; simp [hx]; exact .int _ _
        | k + 1 => simp [inR] at hk)
    rw [List.length_map] at this
    exact this
theorem c50 (D : List Int) (l : List Pn) (e : Int) (hl : l.length ≤ 60) (hw : ∀ p ∈ l, I64 p.2.2) : PC Try.prog 50 [devV D l e] (.lst false 1 ((mks l).map inR)) := by
  refine ⟨Try.call50, fun ok w vs hok hr => ?_⟩
  obtain ⟨hlen, hrs⟩ := hr
  obtain ⟨v1, rfl⟩ : ∃ v1, vs = [v1] := by
    match vs, hlen with
    | [a], _ => exact ⟨a, rfl⟩
  have h1 := hrs 0 _ _ rfl rfl
  have h1' := h1
  unfold devV at h1
  cases h1 with
  | agg ps us hl' ho hh =>
    obtain ⟨u1, u2, u3, rfl⟩ : ∃ u1 u2 u3, us = [u1, u2, u3] := by
      match us, hl' with
      | [a, b, c], _ => exact ⟨a, b, c, rfl⟩
    have g1 := hh 0 _ _ rfl rfl
    have g2 := hh 1 _ _ rfl rfl
    have g3 := rep_u64 (hh 2 _ _ rfl rfl)
    subst g3
    cases g1 with
    | lst _ _ _ Ad cd us1 hlen1 hc1 hf1 hA1 hcell1 hrep1 =>
      cases g2 with
      | lst _ _ _ Ap cp us2 hlen2 hc2 hf2 hA2 hcell2 hrep2 =>
        have key := (callsIn_wide (n := 3)).1 (Masks_in 3 (by omega) ok (devV D l e) (alw l) (fun m => c52 D l e m hl hw) Ad Ap (D.map wdR).length cd (l.map pnR).length cp e w hok h1' (by simp; omega))
        refine key.mono fun x w' hx => ?_
        obtain ⟨⟨v, rfl, hv⟩, hB⟩ := hx
        refine ⟨hB, ?_⟩
        simp only [List.length_map] at hv
        exact rep_row hv
end Go.Ab.Try
