/- Instructions and words as rows. -/
import Derived.Test.YtalgjggmhhdkkaaDoorKD
import Derived.Test.YtalgjggmhhdkkaaDoorKE
namespace Go.Ab.Tryd
open Go.Ab
set_option linter.unusedVariables false
set_option linter.unusedSimpArgs false
set_option linter.unnecessarySimpa false
abbrev Ins := Int × Int × Int × Int × Int
def inR (i : Ins) : List PV := [.int .i64 i.1, .int .i64 i.2.1, .int .i64 i.2.2.1, .int .i64 i.2.2.2.1, .int .u64 i.2.2.2.2]
def i0 : Ins := (0, 0, 0, 0, 0)
theorem in_at {l : List Ins} {j : Int} (h : 0 ≤ j ∧ j < l.length) : (l.map inR)[j.toNat]? = some [.int .i64 (l.getD j.toNat i0).1, .int .i64 (l.getD j.toNat i0).2.1, .int .i64 (l.getD j.toNat i0).2.2.1, .int .i64 (l.getD j.toNat i0).2.2.2.1, .int .u64 (l.getD j.toNat i0).2.2.2.2] := by
  have : j.toNat < l.length := by omega
  simp [this, inR]
def wdR (x : Int) : List PV := [.int .u64 x]
theorem wd_at {D : List Int} {j : Int} (h : 0 ≤ j ∧ j < D.length) : (D.map wdR)[j.toNat]? = some [.int .u64 (D.getD j.toNat 0)] := by
  have : j.toNat < D.length := by omega
  simp [this, wdR]
def byR (x : Int) : List PV := [.int .u8 x]
def OkC (code : List Ins) : Prop := ∀ i ∈ code, W64 i.2.2.2.2
theorem getD_mem {α : Type} {l : List α} {j : Nat} {d : α} (h : j < l.length) : l.getD j d ∈ l := by
  simp [List.getD_eq_getElem?_getD, h]
theorem list_ext {α : Type} {a b : List α} {d : α} (hl : a.length = b.length) (h : ∀ j, j < a.length → a.getD j d = b.getD j d) : a = b := by
  apply List.ext_getElem hl
  intro j h1 h2
  have := h j h1
  simpa [List.getD_eq_getElem?_getD, h1, h2] using this
end Go.Ab.Tryd
