/- Masks of a device that was written. -/
import Derived.Test.YtknlgjeeenkleaaSL
namespace Go.Ab.Try
open Go.Proofs Go.Ab Go.RowKit
set_option linter.unusedVariables false
set_option linter.unusedSimpArgs false
theorem bt_nat (m j : Nat) : bt (m : Int) j = m.testBit j := by
  unfold bt
  rw [Nat.testBit_eq_decide_div_mod_eq]
  have : ((m : Int) / 2 ^ j % 2 = 1) ↔ (m / 2 ^ j % 2 = 1) := by
    have e : ((m : Int) / 2 ^ j % 2) = ((m / 2 ^ j % 2 : Nat) : Int) := by simp
    rw [e]; omega
  simp only [this]
theorem bt_0 (j : Nat) : bt 0 j = false := by have := bt_nat 0 j; simpa using this
theorem bt_full {n j : Nat} (h : j < n) : bt (((2 ^ n : Nat) : Int) - 1) j = true := by
  have hp : 0 < 2 ^ n := Nat.pow_pos (by omega)
  have e : (((2 ^ n : Nat) : Int) - 1) = ((2 ^ n - 1 : Nat) : Int) := by omega
  rw [e, bt_nat, Nat.testBit_two_pow_sub_one]
  simp [h]
theorem bit_less8 : ∀ m, m < 256 → ∀ k, k < 8 → m.testBit k = true → ∀ j, j < 8 → (m - 2 ^ k).testBit j = (decide (j ≠ k) && m.testBit j) := by decide +kernel
theorem bt_less {m : Int} (h0 : 0 ≤ m) (h1 : m < 256) {k j : Nat} (hk : k < 8) (hj : j < 8) (hb : bt m k = true) : 2 ^ k ≤ m ∧ bt (m - 2 ^ k) j = (decide (j ≠ k) && bt m j) := by
  obtain ⟨q, rfl⟩ : ∃ q : Nat, m = (q : Int) := ⟨m.toNat, by omega⟩
  rw [bt_nat] at hb
  have hle : 2 ^ k ≤ q := Nat.ge_two_pow_of_testBit hb
  have hc : ((2 : Int) ^ k) = ((2 ^ k : Nat) : Int) := by simp
  have e : ((q : Int) - 2 ^ k) = ((q - 2 ^ k : Nat) : Int) := by rw [hc]; omega
  refine ⟨by rw [hc]; omega, ?_⟩
  rw [e, bt_nat, bt_nat]
  exact bit_less8 q (by omega) k hk hb j hj
/-- The epoch of the last that came to be; 0: none did. -/
def lastE (L : List Pn) (x : Int) : Nat → Int
  | 0 => 0
  | k + 1 => if bt x k = true then ep L k else lastE L x k
theorem lastE_ge {L : List Pn} {x : Int} (hs : ∀ j k : Nat, j < k → k < L.length → ep L j ≤ ep L k) : ∀ {n : Nat}, n ≤ L.length → ∀ j, j < n → bt x j = true → ep L j ≤ lastE L x n
  | 0, _, j, hj, _ => by omega
  | n + 1, hn, j, hj, hb => by
    rw [lastE]
    split
    · rcases Nat.lt_or_ge j n with g | g
      · exact hs j n g (by omega)
      · obtain rfl : j = n := by omega
        exact Int.le_refl _
    · rcases Nat.lt_or_ge j n with g | g
      · exact lastE_ge hs (by omega) j g hb
      · obtain rfl : j = n := by omega
        rename_i h; exact absurd hb h
theorem lastE_of {L : List Pn} {x : Int} : ∀ {n : Nat}, lastE L x n = 0 ∨ ∃ j, j < n ∧ bt x j = true ∧ lastE L x n = ep L j
  | 0 => .inl rfl
  | n + 1 => by
    rw [lastE]
    split
    · rename_i h; exact .inr ⟨n, by omega, h, rfl⟩
    · rcases lastE_of (L := L) (x := x) (n := n) with h | ⟨j, h1, h2, h3⟩
      · exact .inl h
      · exact .inr ⟨j, by omega, h2, h3⟩
theorem okB_0 (L : List Pn) : okB L 0 = true := by rw [okB_iff]; intro j k _ _ h; rw [bt_0] at h; cases h
theorem okB_full (L : List Pn) : okB L (((2 ^ L.length : Nat) : Int) - 1) = true := by
  rw [okB_iff]; intro j k _ hk _ h; rw [bt_full hk] at h; cases h
structure Good (L : List Pn) (E : Int) : Prop where
  few : L.length ≤ 8
  srt : ∀ j k : Nat, j < k → k < L.length → ep L j ≤ ep L k
  lo : ∀ k : Nat, k < L.length → 0 ≤ ep L k
theorem pow8 {n : Nat} (h : n ≤ 8) : 2 ^ n ≤ 256 ∧ 1 ≤ 2 ^ n := ⟨by simpa using Nat.pow_le_pow_right (n := 2) (by omega) h, Nat.one_le_two_pow⟩
theorem alw_in8 {L : List Pn} (h : L.length ≤ 8) {x : Int} (h0 : 0 ≤ x) (h1 : x < ((2 ^ L.length : Nat) : Int)) : alw L x = okB L x := alw_ok ⟨by omega, h0, h1⟩
theorem mks_at {L : List Pn} (h : L.length ≤ 8) {j : Nat} (hj : j < (mks L).length) : 0 ≤ (mks L).getD j 0 ∧ (mks L).getD j 0 < ((2 ^ L.length : Nat) : Int) ∧ okB L ((mks L).getD j 0) = true := by
  have hm : (mks L).getD j 0 ∈ mks L := getD_mem hj
  have e : mks L = mksN L (2 ^ L.length) := by unfold mks; rw [if_neg (by omega)]
  generalize (mks L).getD j 0 = x at hm ⊢
  rw [e] at hm
  unfold mksN at hm
  rw [List.mem_map] at hm
  obtain ⟨q, hq, rfl⟩ := hm
  rw [List.mem_filter, List.mem_range] at hq
  have h1 : (q : Int) < ((2 ^ L.length : Nat) : Int) := by have := hq.1; omega
  exact ⟨by omega, h1, by rw [← alw_in8 h (by omega) h1]; exact hq.2⟩
theorem mksN_0 (L : List Pn) (hL : L.length ≤ 20) : ∀ N : Nat, 0 < N → N ≤ 2 ^ L.length → ∃ t, mksN L N = 0 :: t
  | 0, h, _ => by omega
  | 1, _, hN => by
    rw [mksN_succ, if_pos]
    · exact ⟨[], rfl⟩
    · exact (alw_ok ⟨hL, by simp, Int.natCast_pos.2 (Nat.pow_pos (by omega))⟩).trans (okB_0 L)
  | N + 2, _, hN => by
    obtain ⟨t, ht⟩ := mksN_0 L hL (N + 1) (by omega) (by omega)
    rw [mksN_succ, ht]
    exact ⟨_, rfl⟩
theorem mks_0 {L : List Pn} (h : L.length ≤ 8) : (mks L).getD 0 0 = 0 ∧ 0 < (mks L).length := by
  have e : mks L = mksN L (2 ^ L.length) := by unfold mks; rw [if_neg (by omega)]
  have hp := pow8 h
  obtain ⟨t, ht⟩ := mksN_0 L (by omega) (2 ^ L.length) (by omega) (Nat.le_refl _)
  rw [e, ht]
  exact ⟨rfl, by simp⟩
theorem mks_len {L : List Pn} (h : L.length ≤ 8) : (mks L).length ≤ 2 ^ L.length := by
  have e : mks L = mksN L (2 ^ L.length) := by unfold mks; rw [if_neg (by omega)]
  rw [e]; exact mksN_len _ _
theorem mks_last {L : List Pn} (h : L.length ≤ 8) : (mks L).getD ((mks L).length - 1) 0 = ((2 ^ L.length : Nat) : Int) - 1 := by
  have e : mks L = mksN L (2 ^ L.length) := by unfold mks; rw [if_neg (by omega)]
  have hp := pow8 h
  obtain ⟨N, hN⟩ : ∃ N, 2 ^ L.length = N + 1 := ⟨2 ^ L.length - 1, by omega⟩
  have e2 : (N : Int) = ((2 ^ L.length : Nat) : Int) - 1 := by omega
  have e3 : mks L = mksN L N ++ [(N : Int)] := by
    rw [e, hN, mksN_succ, if_pos]
    rw [alw_in8 h (by omega) (by omega), e2]
    exact okB_full L
  rw [e3]
  simp only [List.length_append, List.length_cons, List.length_nil, Nat.zero_add, Nat.add_sub_cancel]
  rw [List.getD_eq_getElem?_getD, List.getElem?_append_right (Nat.le_refl _)]
  simp only [Nat.sub_self, List.getElem?_cons_zero, Option.getD_some]
  exact e2
theorem good_a {L : List Pn} {E x : Int} (g : Good L E) (h : okB L x = true) {k : Nat} (hk : k < L.length) (hlt : ep L k < lastE L x L.length) : bt x k = true := by
  cases hb : bt x k
  · rcases lastE_of (L := L) (x := x) (n := L.length) with e | ⟨j, h1, h2, h3⟩
    · have := g.lo k hk; omega
    · have := (okB_iff.1 h) j k h1 hk h2 hb; omega
  · rfl
theorem good_b {L : List Pn} {E x : Int} (g : Good L E) (h0 : 0 ≤ x) (h1 : x < ((2 ^ L.length : Nat) : Int)) (h : okB L x = true) {k : Nat} (hk : k < L.length) (hb : bt x k = true) (he : ep L k = lastE L x L.length) : 0 ≤ x - 2 ^ k ∧ x - 2 ^ k < 256 ∧ alw L (x - 2 ^ k) = true := by
  have hf := g.few
  have hp := pow8 hf
  have h2 : x < 256 := by omega
  have hle := (bt_less h0 h2 (j := k) (by omega) (by omega) hb).1
  have hpos : (0 : Int) < 2 ^ k := by
    have : ((2 : Int) ^ k) = ((2 ^ k : Nat) : Int) := by simp
    rw [this]; exact_mod_cast Nat.pow_pos (by omega)
  refine ⟨by omega, by omega, ?_⟩
  rw [alw_in8 hf (by omega) (by omega), okB_iff]
  intro j q hj hq hbj hbq
  rw [(bt_less h0 h2 (by omega) (by omega) hb).2] at hbj hbq
  simp at hbj
  have hjl := lastE_ge g.srt (Nat.le_refl _) j hj hbj.2
  by_cases e : q = k
  · subst e; omega
  · simp [e] at hbq
    exact (okB_iff.1 h) j q hj hq hbj.2 hbq
theorem sel_full {L : List Pn} (h : L.length ≤ 8) : ∀ k, k ≤ L.length → selL L (((2 ^ L.length : Nat) : Int) - 1) k = L.take k
  | 0, _ => rfl
  | k + 1, hk => by
    rw [selL, if_pos ⟨by omega, bt_full (by omega)⟩, sel_full h k (by omega), List.take_add_one]
    have : L[k]? = some L[k] := List.getElem?_eq_getElem (by omega)
    rw [List.getD_eq_getElem?_getD, this]; rfl
theorem sel_none (L : List Pn) : ∀ k, selL L 0 k = []
  | 0 => rfl
  | k + 1 => by rw [selL, if_neg (by rw [bt_0]; simp), sel_none L k]
theorem img_full {D : List Int} {L : List Pn} (h : L.length ≤ 8) : imgD D L (((2 ^ L.length : Nat) : Int) - 1) = putsD D L := by
  unfold imgD; rw [sel_full h _ (Nat.le_refl _), List.take_length]
theorem img_none (D : List Int) (L : List Pn) : imgD D L 0 = D := by unfold imgD; rw [sel_none]; rfl
theorem good_of {n : Nat} {i : Int} {D : List Int} {L : List Pn} {E : Int} (h : Inv n 8 i D L E) : Good L E :=
  ⟨by rcases h.mx with g | g <;> omega, h.srt, h.lo⟩
theorem eps_of {n : Nat} {i : Int} {D : List Int} {L : List Pn} {E : Int} (h : Inv n 8 i D L E) (hi : i ≤ 1000) : ∀ p ∈ L, I64 p.2.2 := fun p hp => by
  obtain ⟨j, hj, rfl⟩ := List.getElem_of_mem hp
  have a := h.lo j hj
  have b := h.up j hj
  have c := h.e1
  rw [List.getD_eq_getElem?_getD, List.getElem?_eq_getElem hj] at a b
  simp at a b
  unfold I64; omega
theorem mrow_0 {L : List Pn} (h : L.length ≤ 8) : ((mks L).map inR)[0]? = some [.int .i64 0] := by
  have h1 := mks_0 h
  have := in_at (c := mks L) (j := 0) ⟨by omega, by omega⟩
  rw [show (0 : Int).toNat = 0 from rfl, h1.1] at this
  exact this
theorem mrow_l {L : List Pn} (h : L.length ≤ 8) : ((mks L).map inR)[(((mks L).length : Int) - 1).toNat]? = some [.int .i64 (((2 ^ L.length : Nat) : Int) - 1)] := by
  have h1 := mks_0 h
  have := in_at (c := mks L) (j := ((mks L).length : Int) - 1) ⟨by omega, by omega⟩
  rw [show (((mks L).length : Int) - 1).toNat = (mks L).length - 1 by omega] at this ⊢
  rw [mks_last h] at this
  exact this
theorem wp8 {L : List Pn} (h : L.length ≤ 8) : IntKind.i64.wrap (((2 ^ L.length : Nat) : Int) - 1) = ((2 ^ L.length : Nat) : Int) - 1 := by
  have := pow8 h
  generalize 2 ^ L.length = N at this ⊢
  exact w64 (by omega) (by omega)
theorem ws8 {L : List Pn} (h : L.length ≤ 8) {x q : Int} (h0 : 0 ≤ x) (h1 : x < ((2 ^ L.length : Nat) : Int)) (h2 : 0 ≤ q) (h3 : q < 8) : IntKind.i64.wrap (x - ((2 ^ q.toNat : Nat) : Int)) = x - ((2 ^ q.toNat : Nat) : Int) := by
  have a := pow8 h
  have b := pow8 (n := q.toNat) (by omega)
  generalize 2 ^ L.length = N at a h1
  generalize 2 ^ q.toNat = M at b ⊢
  exact w64 (by omega) (by omega)
theorem tm_2 {x : Int} {j : Nat} (h : 0 ≤ x) : (x / 2 ^ j).tmod 2 = x / 2 ^ j % 2 := Int.tmod_eq_emod_of_nonneg (Int.ediv_nonneg h (Int.le_of_lt (Int.pow_pos (by omega))))
theorem lastE_yes {L : List Pn} {x k : Int} (h : 0 ≤ k) (hb : bt x k.toNat = true) : lastE L x (k + 1).toNat = (L.getD k.toNat (0, 0, 0)).2.2 := by
  rw [show (k + 1).toNat = k.toNat + 1 by omega, lastE, if_pos hb]; rfl
theorem lastE_no {L : List Pn} {x k : Int} (h : 0 ≤ k) (hb : bt x k.toNat = false) : lastE L x (k + 1).toNat = lastE L x k.toNat := by
  rw [show (k + 1).toNat = k.toNat + 1 by omega, lastE, if_neg (by rw [hb]; simp)]
theorem lastE_0 (L : List Pn) (x : Int) : lastE L x 0 = 0 := rfl
theorem bad_8 {L : List Pn} {E x k q : Int} {C : Prop} (g : Good L E) (h0 : 0 ≤ x) (h1 : x < ((2 ^ L.length : Nat) : Int)) (h : okB L x = true) (hq : 0 ≤ q) (hq2 : q < L.length) (hk : k.toNat = L.length)
    (hc : ((L.getD q.toNat (0, 0, 0)).2.2 < lastE L x k.toNat ∧ ¬ x / 2 ^ q.toNat % 2 = 1) ∨ ((x / 2 ^ q.toNat % 2 = 1 ∧ (L.getD q.toNat (0, 0, 0)).2.2 = lastE L x k.toNat) ∧ alw L (x - ((2 ^ q.toNat : Nat) : Int)) = false)) : C := by
  exfalso
  rw [hk] at hc
  rcases hc with ⟨p1, p2⟩ | ⟨⟨p1, p2⟩, p3⟩
  · exact p2 (of_decide_eq_true (good_a g h (k := q.toNat) (by omega) p1))
  · have := (good_b g h0 h1 h (k := q.toNat) (by omega) (decide_eq_true p1) p2).2.2
    rw [show ((2 ^ q.toNat : Nat) : Int) = 2 ^ q.toNat by simp] at p3
    rw [this] at p3; cases p3
end Go.Ab.Try
