/- Reading by places, as reading by what is left. -/
import Derived.Test.YtalgjggmhhdkkaaDoorME
namespace Go.Ab.Tryd
open Go.Proofs Go.Ab
set_option linter.unusedVariables false
set_option linter.unusedSimpArgs false
set_option linter.unnecessarySimpa false
theorem disk_short {k : List Int → List Int → Res} : ∀ {m : Nat} {D l : List Int}, l.length < 8 * m → pDisk k m D l = short
  | 0, D, l, h => by omega
  | m + 1, D, l, h => by
    rw [pDisk]
    split
    · rfl
    · exact disk_short (by simp; omega)
theorem ins_short {k : List Ins → List Int → Res} : ∀ {m : Nat} {K : List Ins} {l : List Int}, l.length < 12 * m → pIns k m K l = short
  | 0, K, l, h => by omega
  | m + 1, K, l, h => by
    rw [pIns]
    split
    · rfl
    · exact ins_short (by simp; omega)
theorem disk_next {k : List Int → List Int → Res} {m : Nat} {D l : List Int} (hm : 0 < m) (hl : 8 ≤ l.length) : pDisk k m D l = pDisk k (m - 1) (D ++ [numW l]) (l.drop 8) := by
  obtain ⟨m, rfl⟩ : ∃ q, m = q + 1 := ⟨m - 1, by omega⟩
  rw [pDisk, if_neg (by omega)]; rfl
theorem ins_next {k : List Ins → List Int → Res} {m : Nat} {K : List Ins} {l : List Int} (hm : 0 < m) (hl : 12 ≤ l.length) : pIns k m K l = pIns k (m - 1) (K ++ [insOf l]) (l.drop 12) := by
  obtain ⟨m, rfl⟩ : ∃ q, m = q + 1 := ⟨m - 1, by omega⟩
  rw [pIns, if_neg (by omega)]; rfl
theorem disk_0 {k : List Int → List Int → Res} {m : Nat} {D l : List Int} (hm : m = 0) : pDisk k m D l = k D l := by subst hm; rfl
theorem ins_0 {k : List Ins → List Int → Res} {m : Nat} {K : List Ins} {l : List Int} (hm : m = 0) : pIns k m K l = k K l := by subst hm; rfl
theorem code_none {k : List Ins → List Int → Res} {l : List Int} {a : Nat} (h : l.length ≤ a) : pCode k (l.drop a) = short := by rw [List.drop_eq_nil_of_le h]; rfl
theorem code_some {k : List Ins → List Int → Res} {l : List Int} {a : Nat} (h : a < l.length) : pCode k (l.drop a) = pIns k (l.getD a 0).toNat [] (l.drop (a + 1)) := by
  rw [List.drop_eq_getElem_cons h, pCode, show l.getD a 0 = l[a] by simp [List.getD_eq_getElem?_getD, h]]
theorem top_none {l : List Int} (h : l.length < 3) : pTop l = short := by
  match l, h with
  | [], _ => rfl
  | [a], _ => rfl
  | [a, b], _ => rfl
theorem top_some {l : List Int} (h : 7 ≤ l.length) : pTop (l.drop 4) = pDisk (fun D l' => pC0 (l.getD 4 0) (l.getD 5 0) D l') (l.getD 6 0).toNat [] (l.drop 7) := by
  match l, h with
  | a :: b :: c :: d :: e :: f :: g :: l, _ => rfl
theorem mag_drop {l : List Int} (h : 4 ≤ l.length) (h0 : l.getD 0 0 = 66) (h1 : l.getD 1 0 = 87) (h2 : l.getD 2 0 = 75) (h3 : l.getD 3 0 = 49) : readL l = pTop (l.drop 4) := by
  obtain ⟨l', rfl⟩ := mag_of h h0 h1 h2 h3
  rw [read_mag]; rfl
theorem end_none {p : Pg} {l : List Int} {a : Nat} (h : l.length ≤ a) : pEnd p (l.drop a) = (p, 0) := by rw [List.drop_eq_nil_of_le h]; rfl
theorem end_some {p : Pg} {l : List Int} {a : Nat} (h : a < l.length) : pEnd p (l.drop a) = (pg0, 5) := by rw [List.drop_eq_getElem_cons h]; rfl
theorem insOf_at {l : List Int} {a : Nat} : insOf (l.drop a) = (l.getD a 0, l.getD (a + 1) 0, l.getD (a + 2) 0, l.getD (a + 3) 0, numW (l.drop (a + 4))) := by
  unfold insOf
  simp [List.getD_eq_getElem?_getD, List.getElem?_drop, List.drop_drop]
end Go.Ab.Tryd
