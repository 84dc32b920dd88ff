/- Texts as lists of bytes. -/
import Derived.Test.YtknlgjeeenkleaaD1
namespace Go.Ab
set_option linter.unusedVariables false
set_option linter.unusedSimpArgs false

theorem byteArray_ext {a b : ByteArray} (h : a.data.toList = b.data.toList) : a = b := by
  cases a; cases b; simp_all
theorem strOf_data (ns : List Int) : (strOf ns).data.toList = ns.map fun n => UInt8.ofNat n.toNat := by
  have key : ∀ (ns : List Int) (s : ByteArray), (ns.foldl (fun r n => r.push (UInt8.ofNat n.toNat)) s).data.toList = s.data.toList ++ ns.map fun n => UInt8.ofNat n.toNat := by
    intro ns
    induction ns with
    | nil => intro s; simp
    | cons n ns ih => intro s; rw [List.foldl_cons, ih]; simp [ByteArray.data_push]
  have := key ns ByteArray.empty
  simpa [strOf] using this
@[go_sem] theorem strOf_size (ns : List Int) : (strOf ns).size = ns.length := by
  have := congrArg List.length (strOf_data ns)
  rw [List.length_map, Array.length_toList] at this
  exact this
@[go_sem] theorem strOf_append (a b : List Int) : strOf a ++ strOf b = strOf (a ++ b) := byteArray_ext (by
  rw [ByteArray.data_append, Array.toList_append, strOf_data, strOf_data, strOf_data, List.map_append])
@[go_sem] theorem strOf_extract (ns : List Int) (a b : Nat) : (strOf ns).extract a b = strOf ((ns.drop a).take (b - a)) := byteArray_ext (by
  rw [ByteArray.data_extract, strOf_data]
  have := strOf_data ns
  rw [Array.toList_extract, this, List.extract_eq_take_drop, ← List.map_drop, ← List.map_take])
/-- A text's bytes, as numbers. -/
def bytes (s : ByteArray) : List Int := s.data.toList.map fun b => (b.toNat : Int)
theorem strOf_bytes (s : ByteArray) : strOf (bytes s) = s := byteArray_ext (by
  rw [strOf_data, bytes, List.map_map]
  have : (fun n : Int => UInt8.ofNat n.toNat) ∘ (fun b : UInt8 => (b.toNat : Int)) = id := by funext b; simp
  rw [this, List.map_id])
theorem bytes_length (s : ByteArray) : (bytes s).length = s.size := by rw [bytes, List.length_map, Array.length_toList]; rfl
theorem bytes_range {s : ByteArray} {n : Int} (h : n ∈ bytes s) : 0 ≤ n ∧ n < 256 := by
  simp only [bytes, List.mem_map] at h
  obtain ⟨b, _, rfl⟩ := h
  have := b.toNat_lt
  omega
theorem bytes_strOf {ns : List Int} (h : ∀ n ∈ ns, 0 ≤ n ∧ n < 256) : bytes (strOf ns) = ns := by
  rw [bytes, strOf_data, List.map_map]
  conv => rhs; rw [← List.map_id ns]
  refine List.map_congr_left fun n hn => ?_
  have := h n hn
  simp only [Function.comp, id, UInt8.toNat_ofNat']
  omega
theorem strOf_inj {a b : List Int} (ha : ∀ n ∈ a, 0 ≤ n ∧ n < 256) (hb : ∀ n ∈ b, 0 ≤ n ∧ n < 256) (h : strOf a = strOf b) : a = b := by
  rw [← bytes_strOf ha, h, bytes_strOf hb]
theorem bat_strOf {ns : List Int} (h : ∀ n ∈ ns, 0 ≤ n ∧ n < 256) (j : Nat) : bat (strOf ns) j = ns.getD j 0 := by
  unfold bat
  rw [strOf_data, List.getD_eq_getElem?_getD, List.getElem?_map, List.getD_eq_getElem?_getD]
  cases hj : ns[j]? with
  | none => rfl
  | some n =>
    have := h n (List.mem_of_getElem? hj)
    simp only [Option.map_some, Option.getD_some, UInt8.toNat_ofNat']
    omega
theorem bat_bytes (s : ByteArray) (j : Nat) : bat s j = (bytes s).getD j 0 := by
  conv => lhs; rw [← strOf_bytes s]
  exact bat_strOf (fun n hn => bytes_range hn) j
end Go.Ab
