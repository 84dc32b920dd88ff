/- Names and shapes of instructions; which may be. -/
import Derived.Test.YtalgjggmhhdkkaaDoorKD
import Derived.Lib.Bytealg
namespace Go.Ab
set_option linter.unusedVariables false
set_option linter.unusedSimpArgs false
set_option maxRecDepth 10000
def nameA : List ByteArray := [⟨#[]⟩, ⟨#[99, 111, 110, 115, 116]⟩, ⟨#[109, 111, 118, 101]⟩, ⟨#[98, 105, 110, 97, 114, 121]⟩, ⟨#[117, 110, 97, 114, 121]⟩, ⟨#[106, 117, 109, 112]⟩, ⟨#[98, 114, 97, 110, 99, 104]⟩, ⟨#[108, 111, 97, 100]⟩, ⟨#[115, 116, 111, 114, 101]⟩, ⟨#[105, 110, 112, 117, 116]⟩, ⟨#[114, 101, 97, 100]⟩, ⟨#[119, 114, 105, 116, 101]⟩, ⟨#[102, 108, 117, 115, 104]⟩, ⟨#[98, 97, 114, 114, 105, 101, 114]⟩, ⟨#[104, 97, 108, 116]⟩, ⟨#[116, 114, 97, 112]⟩]
def shapeA : List ByteArray := [⟨#[]⟩, ⟨#[65, 73]⟩, ⟨#[65, 66]⟩, ⟨#[65, 66, 67, 73]⟩, ⟨#[65, 66, 73]⟩, ⟨#[73]⟩, ⟨#[65, 73]⟩, ⟨#[65, 66]⟩, ⟨#[65, 66]⟩, ⟨#[65, 73]⟩, ⟨#[65, 66]⟩, ⟨#[65, 66]⟩, ⟨#[]⟩, ⟨#[]⟩, ⟨#[65]⟩, ⟨#[73]⟩]
def nameS (op : Int) : ByteArray := nameA.getD op.toNat ⟨#[]⟩
def shapeS (op : Int) : ByteArray := shapeA.getD op.toNat ⟨#[]⟩
theorem op_cases {op : Int} (h1 : 1 ≤ op) (h2 : op ≤ 15) : op = 1 ∨ op = 2 ∨ op = 3 ∨ op = 4 ∨ op = 5 ∨ op = 6 ∨ op = 7 ∨ op = 8 ∨ op = 9 ∨ op = 10 ∨ op = 11 ∨ op = 12 ∨ op = 13 ∨ op = 14 ∨ op = 15 := by omega
theorem name_out {op : Int} (h : op < 1 ∨ 15 < op) : nameS op = ⟨#[]⟩ := by
  unfold nameS
  rcases h with h | h
  · have : op.toNat = 0 := by omega
    rw [this]; rfl
  · rw [List.getD_eq_getElem?_getD, List.getElem?_eq_none (by show 16 ≤ op.toNat; omega)]; rfl
theorem shape_out {op : Int} (h : op < 1 ∨ 15 < op) : shapeS op = ⟨#[]⟩ := by
  unfold shapeS
  rcases h with h | h
  · have : op.toNat = 0 := by omega
    rw [this]; rfl
  · rw [List.getD_eq_getElem?_getD, List.getElem?_eq_none (by show 16 ≤ op.toNat; omega)]; rfl
theorem name_in {op : Int} (h1 : 1 ≤ op) (h2 : op ≤ 15) : ¬ nameS op = ⟨#[]⟩ := by
  rcases op_cases h1 h2 with rfl | rfl | rfl | rfl | rfl | rfl | rfl | rfl | rfl | rfl | rfl | rfl | rfl | rfl | rfl <;> decide +kernel
def hasB (s : ByteArray) (c : Int) : Bool := (List.range s.size).any fun j => decide (bat s j = c)
theorem has_yes {s : ByteArray} {c : Int} {j : Nat} (hj : j < s.size) (h : bat s j = c) : hasB s c = true := by
  unfold hasB; rw [List.any_eq_true]; exact ⟨j, List.mem_range.2 hj, by simpa using h⟩
theorem has_no {s : ByteArray} {c : Int} (h : ∀ j : Nat, j < s.size → ¬ bat s j = c) : hasB s c = false := by
  unfold hasB; rw [List.any_eq_false]; intro j hj; simpa using h j (List.mem_range.1 hj)
theorem shape_size (op : Int) : (shapeS op).size ≤ 4 := by
  by_cases h : op < 1 ∨ 15 < op
  · rw [shape_out h]; decide
  · rcases op_cases (op := op) (by omega) (by omega) with rfl | rfl | rfl | rfl | rfl | rfl | rfl | rfl | rfl | rfl | rfl | rfl | rfl | rfl | rfl <;> decide +kernel
/-- Where a text of one byte stands in another. -/
def idx1 (s u : ByteArray) : Int := if u = s then 0 else Lib.indexByte s.data.toList (bat u 0).toNat.toUInt8
theorem idx_has {op : Int} (h1 : 1 ≤ op) (h2 : op ≤ 15) : decide (0 ≤ idx1 (shapeS op) ⟨#[65]⟩) = hasB (shapeS op) 65 ∧ decide (0 ≤ idx1 (shapeS op) ⟨#[66]⟩) = hasB (shapeS op) 66 ∧
    decide (0 ≤ idx1 (shapeS op) ⟨#[67]⟩) = hasB (shapeS op) 67 ∧ decide (0 ≤ idx1 (shapeS op) ⟨#[73]⟩) = hasB (shapeS op) 73 := by
  rcases op_cases h1 h2 with rfl | rfl | rfl | rfl | rfl | rfl | rfl | rfl | rfl | rfl | rfl | rfl | rfl | rfl | rfl <;> decide +kernel
def fieldsE (op a b c m : Int) : Int :=
  if op < 1 ∨ 15 < op then 3
  else if (hasB (shapeS op) 65 = false ∧ a ≠ 0) ∨ (hasB (shapeS op) 66 = false ∧ b ≠ 0) ∨ (hasB (shapeS op) 67 = false ∧ c ≠ 0) ∨ (hasB (shapeS op) 73 = false ∧ m ≠ 0) then 5
  else if (hasB (shapeS op) 65 = true ∧ (a < 0 ∨ 7 < a)) ∨ (hasB (shapeS op) 66 = true ∧ (b < 0 ∨ 7 < b)) ∨ (hasB (shapeS op) 67 = true ∧ (c < 0 ∨ 7 < c)) then 14 else 0
theorem fields_3 {op a b c m : Int} (h : op < 1 ∨ 15 < op) : (3 : Int) = fieldsE op a b c m := by unfold fieldsE; rw [if_pos h]
theorem fields_5 {op a b c m : Int} (h1 : 1 ≤ op) (h2 : op ≤ 15) (h : (hasB (shapeS op) 65 = false ∧ a ≠ 0) ∨ (hasB (shapeS op) 66 = false ∧ b ≠ 0) ∨ (hasB (shapeS op) 67 = false ∧ c ≠ 0) ∨ (hasB (shapeS op) 73 = false ∧ m ≠ 0)) : (5 : Int) = fieldsE op a b c m := by
  unfold fieldsE; rw [if_neg (by omega), if_pos h]
theorem fields_14 {op a b c m : Int} (h1 : 1 ≤ op) (h2 : op ≤ 15) (k1 : ¬ (hasB (shapeS op) 65 = false ∧ a ≠ 0)) (k2 : ¬ (hasB (shapeS op) 66 = false ∧ b ≠ 0)) (k3 : ¬ (hasB (shapeS op) 67 = false ∧ c ≠ 0)) (k4 : ¬ (hasB (shapeS op) 73 = false ∧ m ≠ 0))
    (h : (hasB (shapeS op) 65 = true ∧ (a < 0 ∨ 7 < a)) ∨ (hasB (shapeS op) 66 = true ∧ (b < 0 ∨ 7 < b)) ∨ (hasB (shapeS op) 67 = true ∧ (c < 0 ∨ 7 < c))) : (14 : Int) = fieldsE op a b c m := by
  unfold fieldsE; rw [if_neg (by omega), if_neg (by rintro (h | h | h | h) <;> contradiction), if_pos h]
theorem fields_0 {op a b c m : Int} (h1 : 1 ≤ op) (h2 : op ≤ 15) (k1 : ¬ (hasB (shapeS op) 65 = false ∧ a ≠ 0)) (k2 : ¬ (hasB (shapeS op) 66 = false ∧ b ≠ 0)) (k3 : ¬ (hasB (shapeS op) 67 = false ∧ c ≠ 0)) (k4 : ¬ (hasB (shapeS op) 73 = false ∧ m ≠ 0))
    (j1 : ¬ (hasB (shapeS op) 65 = true ∧ (a < 0 ∨ 7 < a))) (j2 : ¬ (hasB (shapeS op) 66 = true ∧ (b < 0 ∨ 7 < b))) (j3 : ¬ (hasB (shapeS op) 67 = true ∧ (c < 0 ∨ 7 < c))) : (0 : Int) = fieldsE op a b c m := by
  unfold fieldsE; rw [if_neg (by omega), if_neg (by rintro (h | h | h | h) <;> contradiction), if_neg (by rintro (h | h | h) <;> contradiction)]
theorem fields_end {op a b c m b1 b2 b3 : Int} (h1 : 1 ≤ op) (h2 : op ≤ 15) (k1 : hasB (shapeS op) 65 = true ∨ a = 0) (k2 : hasB (shapeS op) 66 = true ∨ b = 0) (k3 : hasB (shapeS op) 67 = true ∨ c = 0) (k4 : ¬ (hasB (shapeS op) 73 = false ∧ m ≠ 0))
    (q1 : b1 = if hasB (shapeS op) 65 = true ∧ (a < 0 ∨ 7 < a) then 14 else 0) (q2 : b2 = if hasB (shapeS op) 66 = true ∧ (b < 0 ∨ 7 < b) then 14 else b1) (q3 : b3 = if hasB (shapeS op) 67 = true ∧ (c < 0 ∨ 7 < c) then 14 else b2) : b3 = fieldsE op a b c m := by
  have n1 : ¬ (hasB (shapeS op) 65 = false ∧ a ≠ 0) := by rcases k1 with k | k <;> simp [k]
  have n2 : ¬ (hasB (shapeS op) 66 = false ∧ b ≠ 0) := by rcases k2 with k | k <;> simp [k]
  have n3 : ¬ (hasB (shapeS op) 67 = false ∧ c ≠ 0) := by rcases k3 with k | k <;> simp [k]
  by_cases j1 : hasB (shapeS op) 65 = true ∧ (a < 0 ∨ 7 < a) <;> by_cases j2 : hasB (shapeS op) 66 = true ∧ (b < 0 ∨ 7 < b) <;> by_cases j3 : hasB (shapeS op) 67 = true ∧ (c < 0 ∨ 7 < c) <;>
    simp only [j1, j2, j3, if_true, if_false] at q1 q2 q3 <;> subst q1 <;> subst q2 <;> subst q3 <;>
    first | exact fields_14 h1 h2 n1 n2 n3 k4 (.inl j1) | exact fields_14 h1 h2 n1 n2 n3 k4 (.inr (.inl j2)) | exact fields_14 h1 h2 n1 n2 n3 k4 (.inr (.inr j3)) | exact fields_0 h1 h2 n1 n2 n3 k4 j1 j2 j3
def restE (op m routine length : Int) : Int :=
  if op = 3 then (if m < 1 ∨ 14 < m then 3 else 0)
  else if op = 4 then (if m ≠ 15 ∧ m ≠ 16 then 3 else 0)
  else if op = 5 ∨ op = 6 then (if length < 0 ∨ IntKind.u64.wrap length ≤ m then 15 else 0)
  else if op = 9 then (if routine ≠ 0 then 16 else if 4 ≤ m then 4 else 0)
  else if op = 15 then (if m < 1 ∨ 255 < m then 4 else 0) else 0
def checkE (op a b c m routine length : Int) : Int := if fieldsE op a b c m = 0 then restE op m routine length else fieldsE op a b c m
theorem check_f {op a b c m r n : Int} (h : ¬ fieldsE op a b c m = 0) : fieldsE op a b c m = checkE op a b c m r n := by unfold checkE; rw [if_neg h]
theorem check_r {op a b c m r n e : Int} (h : fieldsE op a b c m = 0) (he : e = restE op m r n) : e = checkE op a b c m r n := by unfold checkE; rw [if_pos h, he]
theorem rest_3 {m r n : Int} : restE 3 m r n = if m < 1 ∨ 14 < m then 3 else 0 := rfl
theorem rest_4 {m r n : Int} : restE 4 m r n = if m ≠ 15 ∧ m ≠ 16 then 3 else 0 := rfl
theorem rest_5 {m r n : Int} : restE 5 m r n = if n < 0 ∨ IntKind.u64.wrap n ≤ m then 15 else 0 := rfl
theorem rest_6 {m r n : Int} : restE 6 m r n = if n < 0 ∨ IntKind.u64.wrap n ≤ m then 15 else 0 := rfl
theorem rest_9 {m r n : Int} : restE 9 m r n = if r ≠ 0 then 16 else if 4 ≤ m then 4 else 0 := rfl
theorem rest_15 {m r n : Int} : restE 15 m r n = if m < 1 ∨ 255 < m then 4 else 0 := rfl
theorem rest_no {op m r n : Int} (h3 : ¬ op = 3) (h4 : ¬ op = 4) (h5 : ¬ op = 5) (h6 : ¬ op = 6) (h9 : ¬ op = 9) (h15 : ¬ op = 15) : restE op m r n = 0 := by
  unfold restE; rw [if_neg h3, if_neg h4, if_neg (by omega), if_neg h9, if_neg h15]
end Go.Ab
