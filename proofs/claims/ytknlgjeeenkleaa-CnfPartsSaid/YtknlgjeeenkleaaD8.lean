/- States of a form whose memory is left as it is. -/
import Derived.Test.YtknlgjeeenkleaaD7
namespace Go.Ab
open Go.RowKit
set_option linter.unusedVariables false
set_option linter.unusedSimpArgs false
/-- Temporaries alone. -/
@[go_sem] theorem inS_nil (i : Nat) : inS [] i = false := rfl
@[go_sem] theorem inS_cons (a : Nat) (l : List Nat) (i : Nat) : inS (a :: l) i = (i == a || inS l i) := List.contains_cons
attribute [go_sem] false_or true_or or_false or_true
def relX : AV → AV → Prop
  | _, .any => True
  | .pv p, .pv q => Sub p q
  | x, y => x = y
def relT : List AV → List AV → Prop
  | [], [] => True
  | x :: xs, y :: ys => relX x y ∧ relT xs ys
  | _, _ => False
attribute [go_sem] relX
attribute [go_sem] relT
theorem relT_get : ∀ {xs ys : List AV}, relT xs ys → xs.length = ys.length ∧ ∀ (k : Nat) (x y : AV), xs[k]? = some x → ys[k]? = some y → relX x y
  | [], [], _ => ⟨rfl, fun k x y hk => by simp at hk⟩
  | x :: xs, y :: ys, hh => by
    rw [relT] at hh
    obtain ⟨h1, h2⟩ := relT_get hh.2
    refine ⟨by simp [h1], fun k u v hk hv => ?_⟩
    cases k with
    | zero => simp at hk hv; subst hk; subst hv; exact hh.1
    | succ k => exact h2 k u v (by simpa using hk) (by simpa using hv)
  | [], _ :: _, hh => by simp [relT] at hh
  | _ :: _, [], hh => by simp [relT] at hh
theorem Wk.sub {z : Ini} {t t' : List AV} {h : List ABlk} (hT : relT t t') : Wk z ⟨t, h⟩ ⟨t', h⟩ := by
  obtain ⟨h1, h2⟩ := relT_get hT
  refine Wk.weak h1 fun c w _ k x y v hk hv r => ?_
  have hx := h2 k x y hk hv
  cases y with
  | any => exact .any _
  | pv q =>
    cases x with
    | pv p => rw [relX] at hx; cases r with | pv _ _ hr => exact .pv _ _ (hx _ _ _ hr)
    | _ => simp [relX] at hx
  | _ => cases x <;> simp [relX] at hx <;> simp_all
/-- The same, where memory is left as it is. -/
theorem AW.loopVh {α : Type} {P : Program} {z : Ini} {b : Code} {t : List AV} {h : List ABlk} {Q : Exit → St → Prop} (us : α → List (Nat × AV)) (F : α → Prop) (m : α → Nat) (a₀ : α) (hF : F a₀)
    (hw : Wk z ⟨t, h⟩ ⟨updT t (us a₀), h⟩) (k : ∀ a, F a → ∀ t', updT t (us a) = t' → AW P z b ⟨t', h⟩ (Ab.loopV F m (fun a => ⟨updT t (us a), h⟩) z a Q)) : AW P z (.loop b) ⟨t, h⟩ Q :=
  AW.loopV us (fun _ => h) F m a₀ hF hw fun a ha t' ht h' hh => by subst hh; exact k a ha t' ht
theorem AW.joinVh {α : Type} {P : Program} {z : Ini} {a b : Code} {t : List AV} {h : List ABlk} {Q : Exit → St → Prop} (us : α → List (Nat × AV)) (F : α → Prop)
    (h1 : AW P z a ⟨t, h⟩ (Ab.joinV F (fun a => ⟨updT t (us a), h⟩) z Q)) (h2 : ∀ a, F a → ∀ t', updT t (us a) = t' → AW P z b ⟨t', h⟩ Q) : AW P z (.seq a b) ⟨t, h⟩ Q :=
  AW.joinV us (fun _ => h) F h1 fun a ha t' ht h' hh => by subst hh; exact h2 a ha t' ht
end Go.Ab
