/- Deeds one after another: what is read is what was written last. -/
import Derived.Test.YtknlgjeeenkleaaDM
namespace Go.Ab.Try
open Go.Proofs Go.Ab Go.RowKit
set_option linter.unusedVariables false
set_option linter.unusedSimpArgs false
abbrev Dd := Int × Int × Int
def ddR (x : Dd) : List PV := [.int .i64 x.1, .int .u64 x.2.1, .int .u64 x.2.2]
theorem dd_at {l : List Dd} {j : Int} (h : 0 ≤ j ∧ j < l.length) : (l.map ddR)[j.toNat]? = some [.int .i64 (l.getD j.toNat (0, 0, 0)).1, .int .u64 (l.getD j.toNat (0, 0, 0)).2.1, .int .u64 (l.getD j.toNat (0, 0, 0)).2.2] := by
  have : j.toNat < l.length := by omega
  simp [this, ddR]
theorem putD_get (D : List Int) (p : Pn) (k : Int) (hk : 0 ≤ k ∧ k < D.length) : (putD D p).getD k.toNat 0 = if p.1 = k then p.2.1 else D.getD k.toNat 0 := by
  unfold putD
  by_cases h : 0 ≤ p.1 ∧ p.1 < D.length
  · rw [if_pos h]
    by_cases e : p.1 = k
    · rw [if_pos e, e, List.getD_eq_getElem?_getD, List.getElem?_set_self (by omega)]; rfl
    · rw [if_neg e, List.getD_eq_getElem?_getD, List.getElem?_set_ne (by omega), ← List.getD_eq_getElem?_getD]
  · rw [if_neg h, if_neg (by omega)]
theorem puts_get : ∀ (L : List Pn) (D : List Int) (k : Int), 0 ≤ k ∧ k < D.length → (putsD D L).getD k.toNat 0 = lastW L k (D.getD k.toNat 0)
  | [], D, k, h => rfl
  | p :: L, D, k, h => by
    show (putsD (putD D p) L).getD _ _ = _
    rw [puts_get L (putD D p) k (by rw [putD_len]; exact h), putD_get D p k h]
    rfl
theorem puts_app (D : List Int) (L : List Pn) (p : Pn) : putsD D (L ++ [p]) = putD (putsD D L) p := by simp [putsD]
structure Inv (n : Nat) (most i : Int) (D : List Int) (L : List Pn) (E : Int) : Prop where
  len : D.length = n
  few : (L.length : Int) ≤ i
  mx : L.length = 0 ∨ (L.length : Int) ≤ most
  srt : ∀ j k : Nat, j < k → k < L.length → (L.getD j (0, 0, 0)).2.2 ≤ (L.getD k (0, 0, 0)).2.2
  up : ∀ k : Nat, k < L.length → (L.getD k (0, 0, 0)).2.2 ≤ E
  lo : ∀ k : Nat, k < L.length → 0 ≤ (L.getD k (0, 0, 0)).2.2
  e0 : 0 ≤ E
  e1 : E ≤ i
theorem Inv.zero (D : List Int) (most : Int) : Inv D.length most 0 D [] 0 := ⟨rfl, by simp, .inl rfl, fun j k h h2 => by simp at h2, fun k h => by simp at h, fun k h => by simp at h, by omega, by omega⟩
theorem bump_le {L : List Pn} {E i : Int} (h0 : 0 ≤ E) (h1 : E ≤ i) (h2 : i ≤ 1000) : E ≤ bumpE L E ∧ bumpE L E ≤ i + 1 := by
  unfold bumpE; split
  · rw [w64 (by omega) (by omega)]; omega
  · omega
theorem getD_app {L : List Pn} {p : Pn} {k : Nat} (h : k < L.length) : (L ++ [p]).getD k (0, 0, 0) = L.getD k (0, 0, 0) := by
  rw [List.getD_eq_getElem?_getD, List.getElem?_append_left h, ← List.getD_eq_getElem?_getD]
theorem getD_last {L : List Pn} {p : Pn} : (L ++ [p]).getD L.length (0, 0, 0) = p := by
  rw [List.getD_eq_getElem?_getD, List.getElem?_append_right (Nat.le_refl _)]; simp
theorem Inv.next {n : Nat} {most i : Int} {D : List Int} {L : List Pn} {E : Int} (h : Inv n most i D L E) (hi : 0 ≤ i ∧ i ≤ 1000) (k b v : Int) :
    Inv n most (i + 1) (doDD D L k) (doLL D L E k b v most) (doEE L E k) := by
  obtain ⟨a1, a2, a3, a4, a5, a8, a6, a7⟩ := h
  unfold doDD doLL doEE
  by_cases k0 : k = 0
  · subst k0
    rw [if_neg (by omega), if_pos rfl, if_neg (by omega), if_neg (by omega)]
    unfold wrL
    split
    · exact ⟨a1, by omega, a3, a4, a5, a8, a6, by omega⟩
    · split
      · exact ⟨a1, by omega, a3, a4, a5, a8, a6, by omega⟩
      · refine ⟨a1, by simp; omega, .inr (by simp; omega), fun j q hj hq => ?_, fun q hq => ?_, fun q hq => ?_, a6, by omega⟩
        · simp at hq
          rcases Nat.lt_or_ge q L.length with g | g
          · rw [getD_app (by omega), getD_app g]; exact a4 j q hj g
          · obtain rfl : q = L.length := by omega
            rw [getD_app (by omega), getD_last]; exact a5 j (by omega)
        · simp at hq
          rcases Nat.lt_or_ge q L.length with g | g
          · rw [getD_app g]; exact a5 q g
          · obtain rfl : q = L.length := by omega
            rw [getD_last]; exact Int.le_refl _
        · simp at hq
          rcases Nat.lt_or_ge q L.length with g | g
          · rw [getD_app g]; exact a8 q g
          · obtain rfl : q = L.length := by omega
            rw [getD_last]; exact a6
  · by_cases k1 : k = 1
    · subst k1
      rw [if_neg (by omega), if_neg (by omega), if_neg (by omega), if_pos rfl]
      have := bump_le (L := L) a6 a7 hi.2
      exact ⟨a1, by omega, a3, a4, fun q hq => Int.le_trans (a5 q hq) this.1, a8, by omega, this.2⟩
    · by_cases k2 : k = 2
      · subst k2
        rw [if_pos rfl, if_neg (by omega), if_pos rfl, if_neg (by omega), if_pos rfl]
        exact ⟨by rw [putsD_len]; exact a1, by simp; omega, .inl rfl, fun j k h h2 => by simp at h2, fun k h => by simp at h, fun k h => by simp at h, by omega, by omega⟩
      · rw [if_neg k2, if_neg k0, if_neg k2, if_neg k1, if_neg k2]
        exact ⟨a1, by omega, a3, a4, a5, a8, a6, by omega⟩
theorem want_yes {D : List Int} {L : List Pn} {E b v most : Int} (hb : 0 ≤ b) (h1 : b < D.length) (h2 : (L.length : Int) < most) :
    putsD (doDD D L 0) (doLL D L E 0 b v most) = (putsD D L).set b.toNat v := by
  unfold doDD doLL wrL
  rw [if_neg (by omega), if_pos rfl, if_neg (by omega), if_neg (by omega), puts_app, putD, if_pos ⟨hb, by rw [putsD_len]; exact h1⟩]
theorem want_no {D : List Int} {L : List Pn} {E k b v most : Int} (h : ¬ ((k = 0 ∧ b < (D.length : Int)) ∧ (L.length : Int) < most)) :
    putsD (doDD D L k) (doLL D L E k b v most) = putsD D L := by
  unfold doDD doLL wrL
  by_cases k2 : k = 2
  · subst k2; rw [if_pos rfl, if_neg (by omega), if_pos rfl]; rfl
  · by_cases k0 : k = 0
    · subst k0
      rw [if_neg (by omega), if_pos rfl]
      split
      · rfl
      · rw [if_pos (by omega)]
    · rw [if_neg k2, if_neg k0, if_neg k2]
end Go.Ab.Try
