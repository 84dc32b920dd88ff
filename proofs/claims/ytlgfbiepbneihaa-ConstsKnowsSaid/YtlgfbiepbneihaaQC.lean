/- Facts in memory: rows of eight that stand behind others. -/
import Derived.Test.YtlgfbiepbneihaaQB
import Derived.Test.YtlgfbiepbneihaaDH
namespace Go.Ab.Try
open Go.Proofs Go.Ab
set_option linter.unusedVariables false
set_option linter.unusedSimpArgs false
set_option linter.unnecessarySimpa false
@[go_sem] theorem get8_1 {α : Type} {j : Int} (hj : InR8 j) (m a b c d e f g h : α) (r : List α) : (m :: a :: b :: c :: d :: e :: f :: g :: h :: r)[1 + j.toNat]? = some (sel8 j a b c d e f g h) := by
  rcases hj.cases with rfl | rfl | rfl | rfl | rfl | rfl | rfl | rfl <;> rfl
@[go_sem] theorem set8_1 {α : Type} {j : Int} (hj : InR8 j) (m a b c d e f g h y : α) (r : List α) : (m :: a :: b :: c :: d :: e :: f :: g :: h :: r).set (1 + j.toNat) y =
    m :: upd8 0 j a y :: upd8 1 j b y :: upd8 2 j c y :: upd8 3 j d y :: upd8 4 j e y :: upd8 5 j f y :: upd8 6 j g y :: upd8 7 j h y :: r := by
  rcases hj.cases with rfl | rfl | rfl | rfl | rfl | rfl | rfl | rfl <;> rfl
@[go_sem] theorem get8_9 {α : Type} {j : Int} (hj : InR8 j) (m m1 m2 m3 m4 m5 m6 m7 m8 a b c d e f g h : α) (r : List α) : (m :: m1 :: m2 :: m3 :: m4 :: m5 :: m6 :: m7 :: m8 :: a :: b :: c :: d :: e :: f :: g :: h :: r)[9 + j.toNat]? = some (sel8 j a b c d e f g h) := by
  rcases hj.cases with rfl | rfl | rfl | rfl | rfl | rfl | rfl | rfl <;> rfl
@[go_sem] theorem set8_9 {α : Type} {j : Int} (hj : InR8 j) (m m1 m2 m3 m4 m5 m6 m7 m8 a b c d e f g h y : α) (r : List α) : (m :: m1 :: m2 :: m3 :: m4 :: m5 :: m6 :: m7 :: m8 :: a :: b :: c :: d :: e :: f :: g :: h :: r).set (9 + j.toNat) y =
    m :: m1 :: m2 :: m3 :: m4 :: m5 :: m6 :: m7 :: m8 :: upd8 0 j a y :: upd8 1 j b y :: upd8 2 j c y :: upd8 3 j d y :: upd8 4 j e y :: upd8 5 j f y :: upd8 6 j g y :: upd8 7 j h y :: r := by
  rcases hj.cases with rfl | rfl | rfl | rfl | rfl | rfl | rfl | rfl <;> rfl
@[go_sem] theorem l1_17 {j : Int} (h : InR8 j) : (1 + j.toNat + 1 ≤ 17) = True := eq_true (by have := h.1; have := h.2; omega)
@[go_sem] theorem l1_16 {j : Int} (h : InR8 j) : (1 + j.toNat ≤ 16) = True := eq_true (by have := h.1; have := h.2; omega)
@[go_sem] theorem l9_17 {j : Int} (h : InR8 j) : (9 + j.toNat + 1 ≤ 17) = True := eq_true (by have := h.1; have := h.2; omega)
@[go_sem] theorem l9_16 {j : Int} (h : InR8 j) : (9 + j.toNat ≤ 16) = True := eq_true (by have := h.1; have := h.2; omega)
@[go_sem] theorem l9_15 {j : Int} (h : InR8 j) : (j.toNat ≤ 15) = True := eq_true (by have := h.1; have := h.2; omega)
@[go_sem] theorem sel8_pint (j : Int) (k : IntKind) (a b c d e f g h : Int) : sel8 j (PV.int k a) (.int k b) (.int k c) (.int k d) (.int k e) (.int k f) (.int k g) (.int k h) = .int k (sel8 j a b c d e f g h) := by
  unfold sel8; repeat' split
  all_goals rfl
attribute [go_sem] fR fA
end Go.Ab.Try
