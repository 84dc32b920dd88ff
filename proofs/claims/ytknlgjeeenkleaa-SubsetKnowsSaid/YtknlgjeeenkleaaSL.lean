/- Masks: which may be; the disk behind one. -/
import Derived.Test.YtknlgjeeenkleaaDN
namespace Go.Ab.Try
open Go.Proofs Go.Ab Go.RowKit
set_option linter.unusedVariables false
set_option linter.unusedSimpArgs false
def bt (m : Int) (j : Nat) : Bool := decide (m / 2 ^ j % 2 = 1)
def ep (l : List Pn) (j : Nat) : Int := (l.getD j (0, 0, 0)).2.2
theorem ep_is (l : List Pn) (j : Nat) : (l.getD j (0, 0, 0)).2.2 = ep l j := rfl
theorem shr_i {m i : Int} (h : 0 ≤ i ∧ i < 64) : ishr .i64 m i = m / 2 ^ i.toNat := by
  have := ishr_eq .i64 m i.toNat (by simp [IntKind.bits]; omega)
  rwa [show ((i.toNat : Nat) : Int) = i by omega] at this
theorem shl_20 : ∀ k : Fin 21, ishl .i64 1 (k.val : Int) = ((2 ^ k.val : Nat) : Int) := by decide
theorem shl_i {i : Int} (h : 0 ≤ i ∧ i ≤ 20) : ishl .i64 1 i = ((2 ^ i.toNat : Nat) : Int) := by
  have := shl_20 ⟨i.toNat, by omega⟩
  simpa [show ((i.toNat : Nat) : Int) = i by omega] using this
theorem pow_20 {n : Nat} (h : n ≤ 20) : 2 ^ n ≤ 1048576 := by simpa using Nat.pow_le_pow_right (n := 2) (by omega) h
def fitB (l : List Pn) (m e : Int) : Bool := (List.range l.length).all fun j => !((decide (ep l j < e) && !bt m j) || (decide (e < ep l j) && bt m j))
def okB (l : List Pn) (m : Int) : Bool := (List.range l.length).all fun j => (List.range l.length).all fun k => !(bt m j && !bt m k && decide (ep l k < ep l j))
def alw (l : List Pn) (m : Int) : Bool := decide (l.length ≤ 20 ∧ 0 ≤ m ∧ m < ((2 ^ l.length : Nat) : Int)) && okB l m
theorem fitB_iff {l : List Pn} {m e : Int} : fitB l m e = true ↔ ∀ j, j < l.length → (ep l j < e → bt m j = true) ∧ (e < ep l j → bt m j = false) := by
  unfold fitB
  rw [List.all_eq_true]
  simp only [List.mem_range]
  constructor
  · intro h j hj
    have := h j hj
    simp only [Bool.not_eq_true', Bool.or_eq_false_iff, Bool.and_eq_false_imp, decide_eq_true_eq, Bool.not_eq_false'] at this
    exact this
  · intro h j hj
    have := h j hj
    simp only [Bool.not_eq_true', Bool.or_eq_false_iff, Bool.and_eq_false_imp, decide_eq_true_eq, Bool.not_eq_false']
    exact this
theorem okB_iff {l : List Pn} {m : Int} : okB l m = true ↔ ∀ j k, j < l.length → k < l.length → bt m j = true → bt m k = false → ep l j ≤ ep l k := by
  unfold okB
  rw [List.all_eq_true]
  simp only [List.mem_range, List.all_eq_true]
  constructor
  · intro h j k hj hk h1 h2
    have := h j hj k hk
    simp [h1, h2] at this
    exact this
  · intro h j hj k hk
    cases h1 : bt m j
    · simp
    · cases h2 : bt m k
      · have := h j k hj hk h1 h2
        simp; exact this
      · simp
theorem fitB_no {l : List Pn} {m e : Int} {j : Nat} (hj : j < l.length) (h : (ep l j < e ∧ bt m j = false) ∨ (e < ep l j ∧ bt m j = true)) : fitB l m e = false := by
  cases hf : fitB l m e
  · rfl
  · rw [fitB_iff] at hf
    rcases h with ⟨h1, h2⟩ | ⟨h1, h2⟩
    · rw [(hf j hj).1 h1] at h2; cases h2
    · rw [(hf j hj).2 h1] at h2; cases h2
theorem ex_max (P : Nat → Bool) (f : Nat → Int) : ∀ n : Nat, (∃ j, j < n ∧ P j = true) → ∃ i, i < n ∧ P i = true ∧ ∀ j, j < n → P j = true → f j ≤ f i
  | 0, ⟨j, h, _⟩ => by omega
  | n + 1, ⟨j, h, hp⟩ => by
    by_cases hq : ∃ j, j < n ∧ P j = true
    · obtain ⟨i, h1, h2, h3⟩ := ex_max P f n hq
      by_cases hn : P n = true ∧ f i < f n
      · refine ⟨n, by omega, hn.1, fun j hj pj => ?_⟩
        rcases Nat.lt_or_ge j n with g | g
        · have := h3 j g pj; omega
        · obtain rfl : j = n := by omega
          exact Int.le_refl _
      · refine ⟨i, by omega, h2, fun j hj pj => ?_⟩
        rcases Nat.lt_or_ge j n with g | g
        · exact h3 j g pj
        · obtain rfl : j = n := by omega
          rcases Int.lt_or_le (f i) (f j) with g2 | g2
          · exact absurd ⟨pj, g2⟩ hn
          · exact g2
    · have : j = n := by
        rcases Nat.lt_or_ge j n with g | g
        · exact absurd ⟨j, g, hp⟩ hq
        · omega
      subst this
      refine ⟨j, by omega, hp, fun i hi pi => ?_⟩
      rcases Nat.lt_or_ge i j with g | g
      · exact absurd ⟨i, g, pi⟩ hq
      · obtain rfl : i = j := by omega
        exact Int.le_refl _
theorem fit_ok {l : List Pn} {m e : Int} (h : fitB l m e = true) : okB l m = true := by
  rw [fitB_iff] at h; rw [okB_iff]
  intro j k hj hk h1 h2
  have a := (h j hj).2
  have b := (h k hk).1
  rcases Int.lt_or_le e (ep l j) with g | g
  · rw [a g] at h1; cases h1
  · rcases Int.lt_or_le (ep l k) e with g2 | g2
    · rw [b g2] at h2; cases h2
    · omega
theorem ok_fit {l : List Pn} {m : Int} (hn : 0 < l.length) (h : okB l m = true) : ∃ i, i < l.length ∧ fitB l m (ep l i) = true := by
  rw [okB_iff] at h
  by_cases hq : ∃ j, j < l.length ∧ bt m j = true
  · obtain ⟨i, h1, h2, h3⟩ := ex_max (bt m) (ep l) l.length hq
    refine ⟨i, h1, fitB_iff.2 fun j hj => ⟨fun hlt => ?_, fun hlt => ?_⟩⟩
    · cases hb : bt m j
      · have := h i j h1 hj h2 hb; omega
      · rfl
    · cases hb : bt m j
      · rfl
      · have := h3 j hj hb; omega
  · obtain ⟨i, h1, _, h3⟩ := ex_max (fun _ => true) (fun j => - ep l j) l.length ⟨0, hn, rfl⟩
    refine ⟨i, h1, fitB_iff.2 fun j hj => ⟨fun hlt => ?_, fun hlt => ?_⟩⟩
    · have := h3 j hj rfl; omega
    · cases hb : bt m j
      · rfl
      · exact absurd ⟨j, hj, hb⟩ hq
theorem ok_not {l : List Pn} {m : Int} (hn : 0 < l.length) (h : ∀ j, j < l.length → fitB l m (ep l j) = false) : okB l m = false := by
  cases hf : okB l m
  · rfl
  · obtain ⟨i, h1, h2⟩ := ok_fit hn hf
    rw [h i h1] at h2; cases h2
theorem alw_no {l : List Pn} {m : Int} (h : ¬ (l.length ≤ 20 ∧ 0 ≤ m ∧ m < ((2 ^ l.length : Nat) : Int))) : alw l m = false := by
  unfold alw; rw [decide_eq_false h]; rfl
theorem alw_ok {l : List Pn} {m : Int} (h : l.length ≤ 20 ∧ 0 ≤ m ∧ m < ((2 ^ l.length : Nat) : Int)) : alw l m = okB l m := by
  unfold alw; rw [decide_eq_true h]; rfl
theorem ok_none {l : List Pn} {m : Int} (h : l.length = 0) : okB l m = true := by rw [okB_iff]; intro j k hj; omega
theorem div0 {m : Int} {n : Nat} (h0 : 0 ≤ m) : m / 2 ^ n = 0 ↔ m < ((2 ^ n : Nat) : Int) := by
  have hp : (0 : Int) < ((2 ^ n : Nat) : Int) := by exact_mod_cast Nat.pow_pos (by omega)
  have hc : ((2 : Int) ^ n) = ((2 ^ n : Nat) : Int) := by simp
  rw [hc]
  constructor
  · intro h
    have := Int.emod_lt_of_pos m hp
    have := Int.mul_ediv_add_emod m ((2 ^ n : Nat) : Int)
    rw [h] at this; omega
  · intro h; exact Int.ediv_eq_zero_of_lt h0 h
theorem alw_in {l : List Pn} {m : Int} (h : (¬ 20 < (l.length : Int) ∧ ¬ m < 0) ∧ m / 2 ^ l.length = 0) : alw l m = okB l m :=
  alw_ok ⟨by omega, by omega, (div0 (by omega)).1 h.2⟩
theorem alw_out {l : List Pn} {m : Int} (h : (20 < (l.length : Int) ∨ m < 0) ∨ ¬ m / 2 ^ l.length = 0) : alw l m = false := by
  apply alw_no
  rintro ⟨h1, h2, h3⟩
  rcases h with (h | h) | h
  · omega
  · omega
  · exact h ((div0 h2).2 h3)
/-- The last epoch of which one came to be, the first of which one did not. -/
structure LF (l : List Pn) (m : Int) (i : Nat) (a b : Int) : Prop where
  a1 : ∀ j, j < i → bt m j = true → ep l j ≤ a
  a2 : a = -9223372036854775808 ∨ ∃ j, j < i ∧ bt m j = true ∧ ep l j = a
  b1 : ∀ j, j < i → bt m j = false → b ≤ ep l j
  b2 : b = 9223372036854775807 ∨ ∃ j, j < i ∧ bt m j = false ∧ ep l j = b
theorem LF.zero (l : List Pn) (m : Int) : LF l m 0 (-9223372036854775808) 9223372036854775807 := ⟨fun j h => by omega, .inl rfl, fun j h => by omega, .inl rfl⟩
theorem LF.set {l : List Pn} {m : Int} {i : Nat} {a b : Int} (h : LF l m i a b) (hb : bt m i = true) : LF l m (i + 1) (if a < ep l i then ep l i else a) b := by
  refine ⟨fun j hj hbj => ?_, ?_, fun j hj hbj => ?_, ?_⟩
  · rcases Nat.lt_or_ge j i with g | g
    · have := h.a1 j g hbj; split <;> omega
    · obtain rfl : j = i := by omega
      split <;> omega
  · split
    · exact .inr ⟨i, by omega, hb, rfl⟩
    · rcases h.a2 with e | ⟨j, h1, h2, h3⟩
      · exact .inl e
      · exact .inr ⟨j, by omega, h2, h3⟩
  · rcases Nat.lt_or_ge j i with g | g
    · exact h.b1 j g hbj
    · obtain rfl : j = i := by omega
      rw [hb] at hbj; cases hbj
  · rcases h.b2 with e | ⟨j, h1, h2, h3⟩
    · exact .inl e
    · exact .inr ⟨j, by omega, h2, h3⟩
theorem LF.unset {l : List Pn} {m : Int} {i : Nat} {a b : Int} (h : LF l m i a b) (hb : bt m i = false) : LF l m (i + 1) a (if ep l i < b then ep l i else b) := by
  refine ⟨fun j hj hbj => ?_, ?_, fun j hj hbj => ?_, ?_⟩
  · rcases Nat.lt_or_ge j i with g | g
    · exact h.a1 j g hbj
    · obtain rfl : j = i := by omega
      rw [hb] at hbj; cases hbj
  · rcases h.a2 with e | ⟨j, h1, h2, h3⟩
    · exact .inl e
    · exact .inr ⟨j, by omega, h2, h3⟩
  · rcases Nat.lt_or_ge j i with g | g
    · have := h.b1 j g hbj; split <;> omega
    · obtain rfl : j = i := by omega
      split <;> omega
  · split
    · exact .inr ⟨i, by omega, hb, rfl⟩
    · rcases h.b2 with e | ⟨j, h1, h2, h3⟩
      · exact .inl e
      · exact .inr ⟨j, by omega, h2, h3⟩
theorem LF.done {l : List Pn} {m a b : Int} (h : LF l m l.length a b) (hl : ∀ p ∈ l, I64 p.2.2) : decide (a ≤ b) = okB l m := by
  have rng : ∀ j, j < l.length → I64 (ep l j) := fun j hj => by
    have : l.getD j (0, 0, 0) ∈ l := getD_mem hj
    exact hl _ this
  cases hok : okB l m
  · rw [decide_eq_false]
    intro hab
    have : okB l m = true := okB_iff.2 fun j k hj hk h1 h2 => by have := h.a1 j hj h1; have := h.b1 k hk h2; omega
    rw [this] at hok; cases hok
  · rw [decide_eq_true]
    rw [okB_iff] at hok
    rcases h.a2 with e | ⟨j, j1, j2, j3⟩
    · rcases h.b2 with e' | ⟨k, k1, k2, k3⟩
      · omega
      · have := rng k k1; unfold I64 at this; omega
    · rcases h.b2 with e' | ⟨k, k1, k2, k3⟩
      · have := rng j j1; unfold I64 at this; omega
      · have := hok j k j1 k1 j2 k2; omega
/-- What came to be. -/
def selL (l : List Pn) (m : Int) : Nat → List Pn
  | 0 => []
  | k + 1 => if k < 63 ∧ bt m k = true then selL l m k ++ [l.getD k (0, 0, 0)] else selL l m k
theorem selL_len (l : List Pn) (m : Int) : ∀ k, (selL l m k).length ≤ k
  | 0 => by simp [selL]
  | k + 1 => by
    have := selL_len l m k
    rw [selL]; split
    · simp; omega
    · omega
theorem selL_yes {l : List Pn} {m i : Int} (h0 : 0 ≤ i) (h : i < 63) (hb : bt m i.toNat = true) : selL l m (i + 1).toNat = selL l m i.toNat ++ [l.getD i.toNat (0, 0, 0)] := by
  rw [show (i + 1).toNat = i.toNat + 1 by omega, selL, if_pos ⟨by omega, hb⟩]
theorem selL_no {l : List Pn} {m i : Int} (h0 : 0 ≤ i) (h : ¬ (i < 63 ∧ bt m i.toNat = true)) : selL l m (i + 1).toNat = selL l m i.toNat := by
  rw [show (i + 1).toNat = i.toNat + 1 by omega, selL, if_neg (by intro hh; exact h ⟨by omega, hh.2⟩)]
def imgD (D : List Int) (l : List Pn) (m : Int) : List Int := putsD D (selL l m l.length)
/-- All that may. -/
def mksN (l : List Pn) (N : Nat) : List Int := ((List.range N).filter fun m : Nat => alw l (m : Int)).map fun m : Nat => (m : Int)
theorem mksN_succ (l : List Pn) (N : Nat) : mksN l (N + 1) = mksN l N ++ (if alw l N = true then [(N : Int)] else []) := by
  unfold mksN; rw [List.range_succ, List.filter_append, List.map_append]
  cases h : alw l N <;> simp [h]
theorem mks_yes {l : List Pn} {i : Int} (h : 0 ≤ i) (hb : alw l i = true) : mksN l (i + 1).toNat = mksN l i.toNat ++ [i] := by
  have e : ((i.toNat : Nat) : Int) = i := by omega
  rw [show (i + 1).toNat = i.toNat + 1 by omega, mksN_succ, e, if_pos hb]
theorem mks_no {l : List Pn} {i : Int} (h : 0 ≤ i) (hb : alw l i = false) : mksN l (i + 1).toNat = mksN l i.toNat := by
  have e : ((i.toNat : Nat) : Int) = i := by omega
  rw [show (i + 1).toNat = i.toNat + 1 by omega, mksN_succ, e, hb]; simp
def mks (l : List Pn) : List Int := if 12 < l.length then [] else mksN l (2 ^ l.length)
theorem mksN_len (l : List Pn) (N : Nat) : (mksN l N).length ≤ N := by
  unfold mksN; rw [List.length_map]; exact Nat.le_trans (List.length_filter_le _ _) (by simp)
theorem mks_few (l : List Pn) : (mks l).length ≤ 4096 := by
  unfold mks; split
  · simp
  · have := mksN_len l (2 ^ l.length)
    have := Nat.pow_le_pow_right (n := 2) (by omega) (show l.length ≤ 12 by omega)
    simp at this; omega
theorem imgD_len (D : List Int) (l : List Pn) (m : Int) : (imgD D l m).length = D.length := putsD_len _ _
def inR (x : Int) : List PV := [.int .i64 x]
theorem in_at {c : List Int} {j : Int} (h : 0 ≤ j ∧ j < c.length) : (c.map inR)[j.toNat]? = some [.int .i64 (c.getD j.toNat 0)] := by
  have : j.toNat < c.length := by omega
  simp [this, inR]
end Go.Ab.Try
