/- How a program's bytes grow. -/
import Derived.Test.YtalgjggmhhdkkaaDoorMB
namespace Go.Ab.Tryd
open Go.Ab
set_option linter.unusedVariables false
set_option linter.unusedSimpArgs false
set_option linter.unnecessarySimpa false
theorem take_next {α : Type} {l : List α} {i : Int} {d : α} (h0 : 0 ≤ i) (h1 : i < l.length) : l.take (i + 1).toNat = l.take i.toNat ++ [l.getD i.toNat d] := by
  have : i.toNat < l.length := by omega
  rw [show (i + 1).toNat = i.toNat + 1 by omega, List.take_add_one, List.getElem?_eq_getElem this]
  simp [List.getD_eq_getElem?_getD, this]
theorem flat_next {α : Type} {f : α → List Int} {l : List α} {i : Int} {d : α} (h0 : 0 ≤ i) (h1 : i < l.length) : (l.take (i + 1).toNat).flatMap f = (l.take i.toNat).flatMap f ++ f (l.getD i.toNat d) := by
  rw [take_next (d := d) h0 h1, List.flatMap_append]; simp
theorem flat_all {α : Type} {f : α → List Int} {l : List α} {i : Int} (h0 : i ≤ l.length) (h1 : ¬ i < l.length) : (l.take i.toNat).flatMap f = l.flatMap f := by
  rw [List.take_of_length_le (by omega)]
def okT (K : List Ins) (j : Int) : Prop := ∀ i : Nat, (i : Int) < j → okI (K.getD i i0)
theorem okT_0 (K : List Ins) : okT K 0 := fun i h => by omega
theorem okT_next {K : List Ins} {j : Int} (h : okT K j) (h0 : 0 ≤ j) (k : okI (K.getD j.toNat i0)) : okT K (j + 1) := fun i hi => if e : (i : Int) < j then h i e else by
  have : i = j.toNat := by omega
  subst this; exact k
theorem okT_all {K : List Ins} {j : Int} (h : okT K j) (h1 : ¬ j < K.length) : okK K := fun i hi => by
  obtain ⟨n, hn, e⟩ := List.getElem_of_mem hi
  have := h n (by omega)
  rwa [show K.getD n i0 = i by simp [List.getD_eq_getElem?_getD, hn, e]] at this
theorem put_13 {p : Pg} (h : ¬ sizeOk p) : putS p = ⟨#[]⟩ ∧ putE p = 13 := by
  have : putE p = 13 := by unfold putE; rw [if_neg h]
  exact ⟨by unfold putS; rw [this]; rfl, this⟩
theorem put_5 {p : Pg} (h : sizeOk p) (k : ¬ formOk p) : putS p = ⟨#[]⟩ ∧ putE p = 5 := by
  have : putE p = 5 := by unfold putE; rw [if_pos h, if_neg k]
  exact ⟨by unfold putS; rw [this]; rfl, this⟩
theorem put_0 {p : Pg} (h : sizeOk p) (k : formOk p) : putS p = strOf (putL p) ∧ putE p = 0 := by
  have : putE p = 0 := putE_0.2 ⟨h, k⟩
  exact ⟨by unfold putS; rw [if_pos this], this⟩
theorem byt_len {n : Nat} : byt (n : Int) ↔ n ≤ 255 := by unfold byt; omega
theorem put_is (p : Pg) : putL p = 66 :: 87 :: 75 :: 49 :: p.bl :: p.ce :: (p.D.length : Int) :: (p.D.flatMap eightL ++ ((p.c0.length : Int) :: (p.c0.flatMap insL ++ ((p.c1.length : Int) :: (p.c1.flatMap insL ++ ((p.c2.length : Int) :: p.c2.flatMap insL)))))) := by
  unfold putL codL; simp
theorem ins_len (i : Ins) : (insL i).length = 12 := rfl
theorem bytes_byR : ∀ l : List Int, bytesA (l.map byR) = some l
  | [] => rfl
  | a :: l => by simp only [List.map_cons, byR]; unfold bytesA; rw [bytes_byR l]; rfl
theorem eight_rows (x : Int) : (eightL x).map byR = [[.int .u8 (x / 72057594037927936 % 256)], [.int .u8 (x / 281474976710656 % 256)], [.int .u8 (x / 1099511627776 % 256)], [.int .u8 (x / 4294967296 % 256)], [.int .u8 (x / 16777216 % 256)], [.int .u8 (x / 65536 % 256)], [.int .u8 (x / 256 % 256)], [.int .u8 (x % 256)]] := rfl
theorem ins_rows (i : Ins) : (insL i).map byR = [.int .u8 i.1] :: [.int .u8 i.2.1] :: [.int .u8 i.2.2.1] :: [.int .u8 i.2.2.2.1] :: (eightL i.2.2.2.2).map byR := rfl
theorem take_byR (l : List Int) : List.take l.length (l.map byR) = l.map byR := List.take_of_length_le (by simp)
end Go.Ab.Tryd
