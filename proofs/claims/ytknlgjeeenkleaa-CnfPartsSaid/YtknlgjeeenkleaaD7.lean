/- Numbers that are written out, wrapped; texts cut and put together. -/
import Derived.Test.YtknlgjeeenkleaaD6
namespace Go.Ab
set_option linter.unusedVariables false
set_option linter.unusedSimpArgs false
@[go_sem] theorem wlit64 (n : Nat) (h : n ≤ 9223372036854775807) : IntKind.i64.wrap (no_index (OfNat.ofNat n)) = OfNat.ofNat n := by
  show IntKind.i64.wrap (n : Int) = (n : Int); exact w64 (by omega) (by omega)
@[go_sem] theorem wlitU (n : Nat) (h : n ≤ 18446744073709551615) : IntKind.u64.wrap (no_index (OfNat.ofNat n)) = OfNat.ofNat n := by
  show IntKind.u64.wrap (n : Int) = (n : Int); exact wU (by omega) (by omega)
@[go_sem] theorem wlit8 (n : Nat) (h : n ≤ 255) : IntKind.u8.wrap (no_index (OfNat.ofNat n)) = OfNat.ofNat n := by
  show IntKind.u8.wrap (n : Int) = (n : Int); exact w8 (by omega) (by omega)
theorem shu8 (x : Int) : ishr .u64 x 8 = x / 256 := by rw [ishr_u64 (by decide)]; rfl
theorem shu16 (x : Int) : ishr .u64 x 16 = x / 65536 := by rw [ishr_u64 (by decide)]; rfl
theorem shu24 (x : Int) : ishr .u64 x 24 = x / 16777216 := by rw [ishr_u64 (by decide)]; rfl
theorem shu32 (x : Int) : ishr .u64 x 32 = x / 4294967296 := by rw [ishr_u64 (by decide)]; rfl
theorem shu40 (x : Int) : ishr .u64 x 40 = x / 1099511627776 := by rw [ishr_u64 (by decide)]; rfl
theorem shu48 (x : Int) : ishr .u64 x 48 = x / 281474976710656 := by rw [ishr_u64 (by decide)]; rfl
theorem shu56 (x : Int) : ishr .u64 x 56 = x / 72057594037927936 := by rw [ishr_u64 (by decide)]; rfl
theorem shi8 (x : Int) : ishr .i64 x 8 = x / 256 := by rw [ishr_i64 (by decide)]; rfl
theorem shi16 (x : Int) : ishr .i64 x 16 = x / 65536 := by rw [ishr_i64 (by decide)]; rfl
theorem shi24 (x : Int) : ishr .i64 x 24 = x / 16777216 := by rw [ishr_i64 (by decide)]; rfl
theorem shu0 (x : Int) : ishr .u64 x 0 = x := by rw [ishr_u64 (by decide)]; exact Int.ediv_one x
theorem shi0 (x : Int) : ishr .i64 x 0 = x := by rw [ishr_i64 (by decide)]; exact Int.ediv_one x
@[go_sem] theorem le_selfI (a : Int) : (a ≤ a) = True := eq_true (Int.le_refl a)
@[go_sem] theorem lt_selfI (a : Int) : (a < a) = False := eq_false (Int.lt_irrefl a)
theorem take_range (l : List Int) (n : Nat) (h : n ≤ l.length) : l.take n = (List.range n).map fun j => l.getD j 0 := by
  apply List.ext_getElem
  · simp; omega
  · intro i h1 h2
    simp at h1 h2 ⊢
    rw [List.getElem?_eq_getElem (by omega)]
    rfl
theorem extract_data (s : ByteArray) (a b : Nat) : (s.extract a b).data.toList = (s.data.toList.drop a).take (b - a) := by
  rw [ByteArray.data_extract, Array.toList_extract, List.extract_eq_take_drop]
theorem bytes_extract (s : ByteArray) (a b : Nat) : bytes (s.extract a b) = ((bytes s).drop a).take (b - a) := by
  rw [bytes, extract_data, List.map_take, List.map_drop]; rfl
theorem bytes_append (s t : ByteArray) : bytes (s ++ t) = bytes s ++ bytes t := by
  rw [bytes, ByteArray.data_append, Array.toList_append, List.map_append]; rfl
theorem bytes_inj {s t : ByteArray} (h : bytes s = bytes t) : s = t := by rw [← strOf_bytes s, h, strOf_bytes]
theorem bat_extract {s : ByteArray} {a b j : Nat} (hj : a + j < b) (hb : b ≤ s.size) : bat (s.extract a b) j = bat s (a + j) := by
  rw [bat_bytes, bat_bytes, bytes_extract]
  rw [List.getD_eq_getElem?_getD, List.getD_eq_getElem?_getD, List.getElem?_take_of_lt (by omega), List.getElem?_drop]
theorem bat_append_l {l : List Int} {t : ByteArray} (hl : ∀ n ∈ l, 0 ≤ n ∧ n < 256) {j : Nat} (hj : j < l.length) : bat (strOf l ++ t) j = l.getD j 0 := by
  rw [bat_bytes, bytes_append, bytes_strOf hl, List.getD_eq_getElem?_getD, List.getD_eq_getElem?_getD, List.getElem?_append_left hj]
theorem extract_append_r {l : List Int} {t : ByteArray} {n : Nat} (hn : l.length = n) : (strOf l ++ t).extract n (strOf l ++ t).size = t := by
  have hs : (strOf l ++ t).data.toList = (strOf l).data.toList ++ t.data.toList := by rw [ByteArray.data_append, Array.toList_append]
  have hl : (strOf l).data.toList.length = n := by rw [strOf_data, List.length_map, hn]
  have hz : (strOf l ++ t).size - n = t.data.toList.length := by rw [ByteArray.size_append, strOf_size, hn, Array.length_toList]; show n + t.data.size - n = t.data.size; omega
  refine byteArray_ext ?_
  rw [extract_data, hs, ← hl, List.drop_left, hl, hz, List.take_length]
theorem take_append_extract (s : ByteArray) {n : Nat} (h : n ≤ s.size) : strOf ((List.range n).map fun j => bat s j) ++ s.extract n s.size = s := by
  have e : (List.range n).map (fun j => bat s j) = (bytes s).take n := by
    rw [take_range _ _ (by rw [bytes_length]; exact h)]
    exact List.map_congr_left fun j _ => bat_bytes s j
  rw [e]
  have hs : strOf ((bytes s).take n) = s.extract 0 n := by
    have := strOf_bytes (s.extract 0 n)
    rw [bytes_extract, List.drop_zero, Nat.sub_zero] at this
    exact this
  rw [hs]
  refine byteArray_ext ?_
  rw [ByteArray.data_append, Array.toList_append, extract_data, extract_data, List.drop_zero, Nat.sub_zero]
  have : s.size - n = (s.data.toList.drop n).length := by rw [List.length_drop, Array.length_toList]; rfl
  rw [this, List.take_length, List.take_append_drop]
end Go.Ab
