/- Literals, clauses, lists of truths. -/
import Derived.Test.YtalgjggmhhdkkaaDoorKD
namespace Go.Ab
set_option linter.unusedVariables false
set_option linter.unusedSimpArgs false

/-! ### Literals -/
def ofV (l : Int) : Int := if l < 0 then -1 else l / 2
def ofN (l : Int) : Bool := decide (0 ≤ l ∧ l % 2 = 1)
def hold (l : Int) (m : List Bool) : Bool := if l < 0 then false else (m.getD (ofV l).toNat false != ofN l)
/-! ### Clauses -/
def cl (b : Bool) (c : List Int) : PV := .lst b 1 (c.map fun x => [.int .i64 x])
/-- Numbers that are such, lists that may be. -/
def Wf (l : List (List Int)) : Prop := (l.length : Int) ≤ 9223372036854775807 ∧ ∀ c ∈ l, (c.length : Int) ≤ 9223372036854775807 ∧ ∀ x ∈ c, I64 x
theorem getD_mem {α : Type} {l : List α} {j : Nat} {d : α} (h : j < l.length) : l.getD j d ∈ l := by
  rw [List.getD_eq_getElem?_getD, List.getElem?_eq_getElem h]; exact List.getElem_mem h
theorem Wf.at {l : List (List Int)} (h : Wf l) {j : Nat} (hj : j < l.length) : ((l.getD j []).length : Int) ≤ 9223372036854775807 ∧ ∀ x ∈ l.getD j [], I64 x := h.2 _ (getD_mem hj)
def clH (m : List Bool) (c : List Int) : Bool := c.any fun x => hold x m
def fbI (l : List (List Int)) (m : List Bool) : Int := match l.findIdx? (fun c => !clH m c) with | some i => i | none => -1
/-! ### Lists of truths, counted -/
def tr : Nat → Int → List Bool
  | 0, _ => []
  | k + 1, n => decide (n % 2 = 1) :: tr k (n / 2)
def good (vars : Nat) (l : List (List Int)) (j : Nat) : Bool := decide (fbI l (tr vars j) < 0)
def cnt (vars : Nat) (l : List (List Int)) : Nat → Int
  | 0 => 0
  | i + 1 => cnt vars l i + if good vars l i = true then 1 else 0
end Go.Ab
