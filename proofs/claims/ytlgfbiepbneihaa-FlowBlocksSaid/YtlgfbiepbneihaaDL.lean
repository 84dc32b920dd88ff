/- Devices: what is done to them. -/
import Derived.Test.YtlgfbiepbneihaaF2
import Derived.Test.YtlgfbiepbneihaaKD
import Derived.Test.YtlgfbiepbneihaaCM
namespace Go.Ab.Try
open Go.Proofs Go.Ab
set_option linter.unusedVariables false
set_option linter.unusedSimpArgs false
set_option linter.unnecessarySimpa false
theorem wd_at {D : List Int} {j : Int} (h : 0 ≤ j ∧ j < D.length) : (D.map wdR)[j.toNat]? = some [.int .u64 (D.getD j.toNat 0)] := by
  have : j.toNat < D.length := by omega
  simp [this, wdR]
theorem pn_at {l : List Pn} {j : Int} (h : 0 ≤ j ∧ j < l.length) : (l.map pnR)[j.toNat]? = some [.int .i64 (l.getD j.toNat (0, 0, 0)).1, .int .u64 (l.getD j.toNat (0, 0, 0)).2.1, .int .i64 (l.getD j.toNat (0, 0, 0)).2.2] := by
  have : j.toNat < l.length := by omega
  simp [this, pnR]
/-- Small enough. -/
def Sm (D : List Int) (l : List Pn) : Prop := D.length ≤ 1000000 ∧ l.length ≤ 1000000
def wrL (D : List Int) (l : List Pn) (e b v most : Int) : List Pn := if (D.length : Int) ≤ b then l else if most ≤ (l.length : Int) then l else l ++ [(b, v, e)]
def wrC (D : List Int) (l : List Pn) (b most : Int) : Int := if (D.length : Int) ≤ b then 258 else if most ≤ (l.length : Int) then 259 else 0
def putD (D : List Int) (p : Pn) : List Int := if 0 ≤ p.1 ∧ p.1 < D.length then D.set p.1.toNat p.2.1 else D
def putsD (D : List Int) (l : List Pn) : List Int := l.foldl putD D
def bumpE (l : List Pn) (e : Int) : Int := if l.any (fun p => decide (p.2.2 = e)) = true then IntKind.i64.wrap (e + 1) else e
theorem putD_len (D : List Int) (p : Pn) : (putD D p).length = D.length := by unfold putD; split <;> simp
theorem putsD_len (l : List Pn) : ∀ D : List Int, (putsD D l).length = D.length := by
  induction l with
  | nil => intro D; rfl
  | cons p l ih => intro D; show (putsD (putD D p) l).length = _; rw [ih, putD_len]
theorem putsD_take (D : List Int) (l : List Pn) (j : Nat) (h : j < l.length) : putsD D (l.take (j + 1)) = putD (putsD D (l.take j)) (l.getD j (0, 0, 0)) := by
  have : l[j]? = some l[j] := List.getElem?_eq_getElem h
  have hd : l.getD j (0, 0, 0) = l[j] := by rw [List.getD_eq_getElem?_getD, this]; rfl
  unfold putsD
  rw [List.take_add_one, List.foldl_append, this, hd]
  rfl
theorem list_ext {α : Type} {a b : List α} {d : α} (hl : a.length = b.length) (h : ∀ j : Nat, j < a.length → a.getD j d = b.getD j d) : a = b := by
  apply List.ext_getElem hl
  intro i h1 h2
  have := h i h1
  rw [List.getD_eq_getElem?_getD, List.getD_eq_getElem?_getD, List.getElem?_eq_getElem h1, List.getElem?_eq_getElem h2] at this
  simpa using this
/-- Of a list from behind: the last one that fits. -/
theorem lastW_skip (l : List Pn) (b v : Int) (k : Nat) (h : ∀ j, k ≤ j → j < l.length → (l.getD j (0, 0, 0)).1 ≠ b) : lastW l b v = lastW (l.take k) b v := by
  conv => lhs; rw [← List.take_append_drop k l]
  unfold lastW
  rw [List.foldl_append]
  generalize List.foldl (fun v p => if p.1 = b then p.2.1 else v) v (l.take k) = u
  have : ∀ m : List Pn, (∀ p ∈ m, p.1 ≠ b) → m.foldl (fun v p => if p.1 = b then p.2.1 else v) u = u := by
    intro m
    induction m with
    | nil => intro _; rfl
    | cons p m ih => intro hm; simp only [List.foldl_cons]; rw [if_neg (hm p (by simp))]; exact ih fun q hq => hm q (by simp [hq])
  apply this
  intro p hp
  obtain ⟨i, hi, rfl⟩ := List.getElem_of_mem hp
  have := h (k + i) (by omega) (by simp at hi; omega)
  rw [List.getD_eq_getElem?_getD, List.getElem?_eq_getElem (by simp at hi; omega)] at this
  simpa using this
theorem lastW_hit (l : List Pn) (b v : Int) (k : Nat) (hk : k < l.length) (h : ∀ j, k < j → j < l.length → (l.getD j (0, 0, 0)).1 ≠ b) (e : (l.getD k (0, 0, 0)).1 = b) : lastW l b v = (l.getD k (0, 0, 0)).2.1 := by
  rw [lastW_skip l b v (k + 1) (fun j h1 h2 => h j (by omega) h2)]
  have hx : l[k]? = some l[k] := List.getElem?_eq_getElem hk
  rw [List.getD_eq_getElem?_getD, hx] at e
  simp only [lastW, List.take_add_one, hx, List.foldl_append, Option.toList_some, List.foldl_cons, List.foldl_nil, List.getD_eq_getElem?_getD, Option.getD_some] at e ⊢
  rw [if_pos e]
theorem lastW_none (l : List Pn) (b v : Int) (h : ∀ j, j < l.length → (l.getD j (0, 0, 0)).1 ≠ b) : lastW l b v = v := by
  rw [lastW_skip l b v 0 (fun j _ => h j)]; simp [lastW]
theorem bump_hit {l : List Pn} {e : Int} {k : Nat} (hk : k < l.length) (h : (l.getD k (0, 0, 0)).2.2 = e) : bumpE l e = IntKind.i64.wrap (e + 1) := by
  unfold bumpE; rw [if_pos]
  rw [List.any_eq_true]
  exact ⟨_, getD_mem hk, by simpa using h⟩
theorem bump_no {l : List Pn} {e : Int} (h : ∀ k, k < l.length → (l.getD k (0, 0, 0)).2.2 ≠ e) : bumpE l e = e := by
  unfold bumpE; rw [if_neg]
  rw [List.any_eq_true]
  rintro ⟨p, hp, hh⟩
  obtain ⟨i, hi, rfl⟩ := List.getElem_of_mem hp
  have := h i hi
  rw [List.getD_eq_getElem?_getD, List.getElem?_eq_getElem hi] at this
  simp at hh this; exact this hh
theorem wr_rows (l : List Pn) (b v e : Int) : (l.map pnR ++ [[PV.int .i64 b, .int .u64 v, .int .i64 e]]).take (l.length + 1) = (l ++ [(b, v, e)]).map pnR := by
  rw [List.take_of_length_le (by simp)]; simp [pnR]
theorem puts_next {D : List Int} {l : List Pn} {i : Int} (h1 : 0 ≤ i) (h2 : i < l.length) : putsD D (l.take (i + 1).toNat) = putD (putsD D (l.take i.toNat)) (l.getD i.toNat (0, 0, 0)) := by
  rw [show (i + 1).toNat = i.toNat + 1 by omega]; exact putsD_take D l _ (by omega)
theorem puts_yes {D : List Int} {l : List Pn} {i : Int} (h1 : 0 ≤ i) (h2 : i < l.length) (h3 : 0 ≤ (l.getD i.toNat (0, 0, 0)).1) (h4 : (l.getD i.toNat (0, 0, 0)).1 < D.length) :
    putsD D (l.take (i + 1).toNat) = (putsD D (l.take i.toNat)).set (l.getD i.toNat (0, 0, 0)).1.toNat (l.getD i.toNat (0, 0, 0)).2.1 := by
  rw [puts_next h1 h2, putD, if_pos ⟨h3, by rw [putsD_len]; exact h4⟩]
theorem puts_no {D : List Int} {l : List Pn} {i : Int} (h1 : 0 ≤ i) (h2 : i < l.length) (h3 : 0 ≤ (l.getD i.toNat (0, 0, 0)).1 → ¬ (l.getD i.toNat (0, 0, 0)).1 < D.length) :
    putsD D (l.take (i + 1).toNat) = putsD D (l.take i.toNat) := by
  rw [puts_next h1 h2, putD, if_neg (fun h => h3 h.1 (by have := h.2; rw [putsD_len] at this; exact this))]
def rdO (D : List Int) (b : Int) : Bool := decide (b < (D.length : Int))
def rdV (D : List Int) (l : List Pn) (b : Int) : Int := if b < (D.length : Int) then lastW l b (D[b.toNat]?.getD 0) else 0
theorem rd_is (D : List Int) (l : List Pn) (b : Int) : PV.tup (if b < D.length then [.int .u64 (lastW l b (D[b.toNat]?.getD 0)), .bool true] else [.int .u64 0, .bool false]) = .tup [.int .u64 (rdV D l b), .bool (rdO D b)] := by
  unfold rdV rdO; split <;> simp_all
theorem rd (D : List Int) (l : List Pn) (e b : Int) (hb : 0 ≤ b) (hs : Sm D l) : PC Try.prog 137 [devV D l e, .int .u64 b] (.tup [.int .u64 (rdV D l b), .bool (rdO D b)]) := by
  rw [← rd_is]; exact c137 D l e b hb hs.1 hs.2
def fewD (D : List Int) (l : List Pn) : Int := if D.length > 100 ∨ l.length > 60 then 0 else 1
theorem few_1 {D : List Int} {l : List Pn} (h : ¬ fewD D l = 0) : D.length ≤ 100 ∧ l.length ≤ 60 := by
  unfold fewD at h; split at h
  · exact absurd rfl h
  · omega
theorem wr_len (D : List Int) (l : List Pn) (e b v most : Int) : (wrL D l e b v most).length ≤ l.length + 1 := by
  unfold wrL; split
  · omega
  · split
    · omega
    · simp
attribute [go_sem] devV
end Go.Ab.Try
