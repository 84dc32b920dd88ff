/- Rules of lists, as one; for short texts. -/
import Derived.Test.YtalgjggmhhdkkaaDoorMC
namespace Go.Ab
theorem listQ : (∀ {α β : Type} (f : α → β) (a b : List α), (a ++ b).map f = a.map f ++ b.map f) ∧ (∀ {α β : Type} (f : α → β) (x : α) (l : List α), (x :: l).map f = f x :: l.map f) ∧ (∀ {α β : Type} (f : α → β), ([] : List α).map f = []) ∧ (∀ {α : Type} (x : α) (a b : List α), x :: a ++ b = x :: (a ++ b)) ∧ (∀ {α : Type} (a : List α), [] ++ a = a) ∧
    (∀ {α : Type} (a b : List α), (a ++ b).length = a.length + b.length) ∧ (∀ {α : Type} (x : α) (l : List α), (x :: l).length = l.length + 1) ∧ (∀ {α : Type}, ([] : List α).length = 0) ∧ (∀ n : Nat, (n ≤ n) = True) :=
  ⟨fun _ _ _ => List.map_append, fun _ _ _ => rfl, fun _ => rfl, fun _ _ _ => rfl, fun _ => rfl, fun _ _ => List.length_append, fun _ _ => rfl, rfl, fun n => eq_true (Nat.le_refl n)⟩
theorem appQ : ∀ {α : Type} (a b c : List α), a ++ b ++ c = a ++ (b ++ c) := fun a b c => List.append_assoc a b c
theorem dropQ : (∀ {α : Type} (x : α) (l : List α) (n : Nat), (x :: l).drop (n + 1) = l.drop n) ∧ (∀ {α : Type} (l : List α), l.drop 0 = l) := ⟨fun _ _ _ => rfl, fun _ => rfl⟩
end Go.Ab
