/- Code over the plain state: rules for regions, branches, blocks, loops. -/
import Derived.Test.YtknlgjeeenkleaaB1
namespace Go.Ab
open Go.RowKit
set_option linter.unusedVariables false
set_option linter.unusedSimpArgs false

/-- What stands behind, said of the plain state. -/
def lift (z : Ini) (Q : Exit → St → Prop) : Exit → Act → World → Prop := fun e a w => ∃ σ c, Q e σ ∧ Sim z σ c a w
/-- Code, from a plain state. -/
def AW (P : Program) (z : Ini) (code : Code) (σ : St) (Q : Exit → St → Prop) : Prop := ∀ c a w, Sim z σ c a w → code.wp P (lift z Q) a w
/-- A region's operations, from a plain state. -/
def AWL (P : Program) (z : Ini) (ops : Array Oper) (l : List Oper) (σ : St) (Q : Exit → St → Prop) : Prop := ∀ c a w, Sim z σ c a w → wpList P ops (lift z Q) l a w

section
variable {P : Program} {z : Ini} {ops : Array Oper} {l : List Oper} {σ σ' : St} {Q Q' : Exit → St → Prop}

theorem lift_mono (h : ∀ e σ, Q e σ → Q' e σ) : ∀ e a w, lift z Q e a w → lift z Q' e a w := fun e a w ⟨σ, c, q, s⟩ => ⟨σ, c, h _ _ q, s⟩
theorem AW.mono {code : Code} (h : AW P z code σ Q) (hq : ∀ e σ, Q e σ → Q' e σ) : AW P z code σ Q' := fun c a w s => Code.wp_mono (lift_mono hq) (h c a w s)

theorem AWL.nil (h : Q .normal σ) : AWL P z ops [] σ Q := fun c a w s => ⟨σ, c, h, s⟩
/-- One operation, whatever it is. -/
theorem AWL.op {o : Oper} {r : AV} {h' : List ABlk} (hg : o.guard = none) (hy : ∀ c a w, Sim z σ c a w → Yields P z o a.eval c σ.h w r h') (h : AWL P z ops l ⟨putT σ.t o.dst r, h'⟩ Q) : AWL P z ops (o :: l) σ Q :=
  fun c a w s => wpList_plain hg fun K hK => (hy c a w s).wp fun c' v w' L M hr => hK _ _ (h c' _ w' ⟨M, (s.ts.later L).put hr o.dst, by rw [put_defers]; exact s.df⟩)
/-- A plain operation. -/
theorem AWL.plain {o : Oper} {r : AV} {d : List (Nat × ABlk)} (hg : o.guard = none) (hs : stepv P (evO σ.t) σ.h.length σ.h o.op = some (r, d)) (h : AWL P z ops l ⟨putT σ.t o.dst r, app σ.h d⟩ Q) : AWL P z ops (o :: l) σ Q :=
  .op hg (fun c a w s => stepv_yields s.m (evO_rep s.ts) s.m.ext.1 (fun x _ hx => .inl (List.getElem?_eq_none hx)) hs) h

/-- As many plain operations as there are. -/
def runL (P : Program) : List Oper → St → List Oper × St
  | [], σ => ([], σ)
  | o :: l, σ => match o.guard with
    | none => match stepv P (evO σ.t) σ.h.length σ.h o.op with
      | some (r, d) => runL P l ⟨putT σ.t o.dst r, app σ.h d⟩
      | none => (o :: l, σ)
    | some _ => (o :: l, σ)
theorem AWL.run (h : AWL P z ops (runL P l σ).1 (runL P l σ).2 Q) : AWL P z ops l σ Q := by
  induction l generalizing σ with
  | nil => exact h
  | cons o l ih =>
    simp only [runL] at h
    split at h
    · rename_i hg
      split at h
      · rename_i r d hs
        exact .plain hg hs (ih h)
      · exact h
    · exact h

/-! ### Code -/
theorem AW.skip (h : Q .normal σ) : AW P z .skip σ Q := fun c a w s => wp_skip ⟨σ, c, h, s⟩
theorem AW.ret (h : Q .ret σ) : AW P z .ret σ Q := fun c a w s => wp_ret ⟨σ, c, h, s⟩
theorem AW.exit {id : Nat} (h : Q (.exit id) σ) : AW P z (.exit id) σ Q := fun c a w s => wp_exit ⟨σ, c, h, s⟩
theorem AW.region {id : Nat} (h : AWL P z ops ops.toList σ Q) : AW P z (.region id ops false) σ Q := fun c a w s => wp_region_list (h c a w s)
def thenK (P : Program) (z : Ini) (b : Code) (Q : Exit → St → Prop) : Exit → St → Prop := fun e σ => match e with
  | .normal => AW P z b σ Q
  | e => Q e σ
theorem AW.seq {a b : Code} (h : AW P z a σ (thenK P z b Q)) : AW P z (.seq a b) σ Q := fun c ac w s => by
  refine wp_seq (Code.wp_mono ?_ (h c ac w s))
  intro e a' w' ⟨σ', c', q, s'⟩
  cases e with
  | normal => exact q c' a' w' s'
  | _ => exact ⟨σ', c', q, s'⟩
theorem AW.cond {x : Operand} {p q : Code} {b : Bool} (hx : evO σ.t x = .pv (.bool b)) (h1 : b = true → AW P z p σ Q) (h2 : b = false → AW P z q σ Q) : AW P z (.cond x p q) σ Q := fun c a w s => by
  have hr := evO_rep s.ts x
  rw [hx] at hr
  have : a.eval x = .bool b := by cases hr with | pv _ _ hr => generalize a.eval x = u at hr; cases hr; rfl
  exact wp_cond this (by cases b with | true => exact h1 rfl c a w s | false => exact h2 rfl c a w s)
def blockK (id : Nat) (Q : Exit → St → Prop) : Exit → St → Prop := fun e σ => match e with
  | .exit j => if j = id then Q .normal σ else Q (.exit j) σ
  | e => Q e σ
theorem AW.block {id : Nat} {b : Code} (h : AW P z b σ (blockK id Q)) : AW P z (.block id b) σ Q := fun c a w s => by
  refine wp_block (Code.wp_mono ?_ (h c a w s))
  intro e a' w' ⟨σ', c', q, s'⟩
  cases e with
  | exit j =>
    simp only [blockK] at q
    simp only [Exit.inBlock]
    split at q <;> rename_i hj
    · simp only [hj, if_true]; exact ⟨σ', c', q, s'⟩
    · simp only [hj, if_false]; exact ⟨σ', c', q, s'⟩
  | _ => exact ⟨σ', c', q, s'⟩
end
end Go.Ab
