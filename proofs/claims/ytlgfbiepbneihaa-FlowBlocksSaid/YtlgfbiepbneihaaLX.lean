/- Registers that play a part: round by round. -/
import Derived.Test.YtlgfbiepbneihaaLW
namespace Go.Ab.Try
open Go.Proofs Go.Ab
set_option linter.unusedVariables false
set_option linter.unusedSimpArgs false
set_option linter.unnecessarySimpa false
@[go_sem] theorem sel8_pbool (j : Int) (a b c d e f g h : Bool) : sel8 j (PV.bool a) (.bool b) (.bool c) (.bool d) (.bool e) (.bool f) (.bool g) (.bool h) = .bool (sel8 j a b c d e f g h) := by
  unfold sel8; repeat' split
  all_goals rfl
def bA (g : B8) : List AV := [.pv (.bool g.a), .pv (.bool g.b), .pv (.bool g.c), .pv (.bool g.d), .pv (.bool g.e), .pv (.bool g.f), .pv (.bool g.g), .pv (.bool g.h)]
def bZ : List AV := [.pv (.bool false), .pv (.bool false), .pv (.bool false), .pv (.bool false), .pv (.bool false), .pv (.bool false), .pv (.bool false), .pv (.bool false)]
attribute [go_sem] bA bZ
@[go_sem] theorem put_a {α : Type} (g : R8 α) (j : Int) (y : α) : (g.put j y).a = upd8 0 j g.a y := rfl
@[go_sem] theorem put_b {α : Type} (g : R8 α) (j : Int) (y : α) : (g.put j y).b = upd8 1 j g.b y := rfl
@[go_sem] theorem put_c {α : Type} (g : R8 α) (j : Int) (y : α) : (g.put j y).c = upd8 2 j g.c y := rfl
@[go_sem] theorem put_d {α : Type} (g : R8 α) (j : Int) (y : α) : (g.put j y).d = upd8 3 j g.d y := rfl
@[go_sem] theorem put_e {α : Type} (g : R8 α) (j : Int) (y : α) : (g.put j y).e = upd8 4 j g.e y := rfl
@[go_sem] theorem put_f {α : Type} (g : R8 α) (j : Int) (y : α) : (g.put j y).f = upd8 5 j g.f y := rfl
@[go_sem] theorem put_g {α : Type} (g : R8 α) (j : Int) (y : α) : (g.put j y).g = upd8 6 j g.g y := rfl
@[go_sem] theorem put_h {α : Type} (g : R8 α) (j : Int) (y : α) : (g.put j y).h = upd8 7 j g.h y := rfl
theorem next_len (code : List Ins) (pc : Int) : (nextS code pc).length ≤ 2 := by
  unfold nextS nextI
  repeat' split
  all_goals simp
section
variable {code : List Ins} {all : List B8} {pc : Int} {k : Nat} {o : B8} {r : Int}
end
/-- What a code's registers play a part in: the least facts. -/
noncomputable def liveS (code : List Ins) : List B8 := open Classical in if h : ∃ all, LowS code all ∧ FixS code all then h.choose else []
theorem live_of {code : List Ins} {all : List B8} (h : LowS code all) (f : FixS code all) : liveS code = all := by
  have hx : ∃ all, LowS code all ∧ FixS code all := ⟨all, h, f⟩
  unfold liveS
  rw [dif_pos hx]
  exact low_fix hx.choose_spec.1 h hx.choose_spec.2 f
theorem low_fixed {code : List Ins} {all : List B8} (h : LowS code all) (f : ∀ j : Nat, j < code.length → all.getD j noB = oneS code all j) : FixS code all := ⟨h.len, f, h.last⟩
@[go_sem] def eqB (x y : B8) : Bool := x.a == y.a && (x.b == y.b && (x.c == y.c && (x.d == y.d && (x.e == y.e && (x.f == y.f && (x.g == y.g && x.h == y.h))))))
theorem eqB_iff {x y : B8} : eqB x y = true ↔ x = y := by
  cases x; cases y; simp [eqB, R8.mk.injEq]
section
variable {code : List Ins} {al al2 : List B8} {ag2 : Bool} {pc : Int}
end
end Go.Ab.Try
