/- A row of eight read and written at a place that is known to be one of them. -/
import Derived.Test.YtlgfbiepbneihaaKD
namespace Go.Ab
open Go.RowKit
set_option linter.unusedVariables false
set_option linter.unusedSimpArgs false
def InR8 (j : Int) : Prop := 0 ≤ j ∧ j < 8
def sel8 {α : Type} (j : Int) (a b c d e f g h : α) : α := if j = 0 then a else if j = 1 then b else if j = 2 then c else if j = 3 then d else if j = 4 then e else if j = 5 then f else if j = 6 then g else h
def upd8 {α : Type} (k j : Int) (x y : α) : α := if j = k then y else x
theorem InR8.cases {j : Int} (h : InR8 j) : j = 0 ∨ j = 1 ∨ j = 2 ∨ j = 3 ∨ j = 4 ∨ j = 5 ∨ j = 6 ∨ j = 7 := by unfold InR8 at h; omega
@[go_sem] theorem get8 {α : Type} {j : Int} (hj : InR8 j) (a b c d e f g h : α) (r : List α) : (a :: b :: c :: d :: e :: f :: g :: h :: r)[j.toNat]? = some (sel8 j a b c d e f g h) := by
  rcases hj.cases with rfl | rfl | rfl | rfl | rfl | rfl | rfl | rfl <;> rfl
@[go_sem] theorem set8 {α : Type} {j : Int} (hj : InR8 j) (a b c d e f g h y : α) (r : List α) : (a :: b :: c :: d :: e :: f :: g :: h :: r).set j.toNat y =
    upd8 0 j a y :: upd8 1 j b y :: upd8 2 j c y :: upd8 3 j d y :: upd8 4 j e y :: upd8 5 j f y :: upd8 6 j g y :: upd8 7 j h y :: r := by
  rcases hj.cases with rfl | rfl | rfl | rfl | rfl | rfl | rfl | rfl <;> rfl
@[go_sem] theorem sel8_int (j : Int) (k : IntKind) (a b c d e f g h : Int) : sel8 j (AV.pv (.int k a)) (.pv (.int k b)) (.pv (.int k c)) (.pv (.int k d)) (.pv (.int k e)) (.pv (.int k f)) (.pv (.int k g)) (.pv (.int k h)) = .pv (.int k (sel8 j a b c d e f g h)) := by
  unfold sel8; repeat' split
  all_goals rfl
@[go_sem] theorem sel8_bool (j : Int) (a b c d e f g h : Bool) : sel8 j (AV.pv (.bool a)) (.pv (.bool b)) (.pv (.bool c)) (.pv (.bool d)) (.pv (.bool e)) (.pv (.bool f)) (.pv (.bool g)) (.pv (.bool h)) = .pv (.bool (sel8 j a b c d e f g h)) := by
  unfold sel8; repeat' split
  all_goals rfl
@[go_sem] theorem upd8_int (k j : Int) (q : IntKind) (x y : Int) : upd8 k j (AV.pv (.int q x)) (.pv (.int q y)) = .pv (.int q (upd8 k j x y)) := by unfold upd8; split <;> rfl
@[go_sem] theorem upd8_bool (k j : Int) (x y : Bool) : upd8 k j (AV.pv (.bool x)) (.pv (.bool y)) = .pv (.bool (upd8 k j x y)) := by unfold upd8; split <;> rfl
theorem InR8.lo {j : Int} (h : InR8 j) : 0 ≤ j := h.1
theorem InR8.hi {j : Int} (h : InR8 j) : j < 8 := h.2
end Go.Ab
