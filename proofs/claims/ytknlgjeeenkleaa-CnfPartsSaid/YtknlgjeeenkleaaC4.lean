/- Going through a region. -/
import Derived.Test.YtknlgjeeenkleaaC3
namespace Go.Ab
open Go.RowKit
set_option linter.unusedVariables false
set_option linter.unusedSimpArgs false
set_option linter.unnecessarySimpa false

/-- A region that goes by its text: what is left of it. -/
def ARN (P : Program) (z : Ini) (ops : List Oper) (i : Nat) (l : List Oper) (s : RS) (K : RS → Prop) : Prop := ∃ es s', RTr P z ops i l s es s' ∧ K s'
/-- A region that draws its order: what is left of it. -/
def ARD (P : Program) (z : Ini) (ops : List Oper) (i : Nat) (l : List Oper) (s : RS) (K : List PE → RS → Prop) : Prop := ∃ es s', RTr P z ops i l s es s' ∧ K es s'

section
variable {P : Program} {z : Ini} {ops : List Oper} {i : Nat} {l : List Oper} {s : RS} {o : Oper} {K : RS → Prop} {KD : List PE → RS → Prop}

theorem ARN.nil (h : K s) : ARN P z ops i [] s K := ⟨[], s, .nil i s, h⟩
theorem ARD.nil (h : KD [] s) : ARD P z ops i [] s KD := ⟨[], s, .nil i s, h⟩
theorem ARN.op {e : PE} (h : OK1 P z ops i o s e) (k : ARN P z ops (i + 1) l (s.put o e) K) : ARN P z ops i (o :: l) s K := let ⟨es, s', r, q⟩ := k; ⟨e :: es, s', .cons i o l s e es s' h r, q⟩
theorem ARD.op {e : PE} (h : OK1 P z ops i o s e) (k : ARD P z ops (i + 1) l (s.put o e) (fun es s' => KD (e :: es) s')) : ARD P z ops i (o :: l) s KD := let ⟨es, s', r, q⟩ := k; ⟨e :: es, s', .cons i o l s e es s' h r, q⟩

/-! ### Plain operations -/
def gOkB (ops : List Oper) (i : Nat) (t : List AV) : Option (Nat × Bool) → Bool
  | none => true
  | some (j, _) => if j < i then (match dstOf ops j with | some d => (boolOf (t.getD d .any)).isSome | none => false) else false
theorem gOkB_spec {ops : List Oper} {i : Nat} {t : List AV} {g : Option (Nat × Bool)} (h : gOkB ops i t g = true) : gOk ops i t g := by
  cases g with
  | none => trivial
  | some jb =>
    obtain ⟨j, b⟩ := jb
    simp only [gOkB] at h
    split at h
    · rename_i hlt
      cases hd : dstOf ops j with
      | none => rw [hd] at h; cases h
      | some d => rw [hd] at h; exact ⟨hlt, by simpa [gOk, hd] using h⟩
    · cases h

/-- Under a guard that may not hold nothing turns in memory. -/
def stillB : Path → AV × List (Nat × ABlk) → Option (AV × List (Nat × ABlk))
  | [], x => some x
  | _ :: _, (r, []) => some (r, [])
  | _ :: _, (_, _ :: _) => none
theorem stillB_some {p : Path} {x y : AV × List (Nat × ABlk)} (h : stillB p x = some y) : x = y ∧ (p ≠ [] → y.2 = []) := by
  obtain ⟨r, d⟩ := x
  cases p with
  | nil => simp only [stillB, Option.some.injEq] at h; exact ⟨h, fun hh => absurd rfl hh⟩
  | cons a p => cases d with
    | nil => simp only [stillB, Option.some.injEq] at h; exact ⟨h, fun _ => by rw [← h]⟩
    | cons b d => cases h

/-- A plain operation of a region: its value, what turns in memory. -/
def stepR (P : Program) (ops : List Oper) (i : Nat) (o : Oper) (s : RS) (p : Path) : Option (AV × List (Nat × ABlk)) :=
  match o.op with
  | .pick (.tmp k) a b => match boolOf (evG p s.t s.g (.tmp k)), boolOf (evG (p ++ [(ixOf ops 0 (.tmp k), true)]) s.t s.g a), boolOf (evG (p ++ [(ixOf ops 0 (.tmp k), false)]) s.t s.g b) with
    | some vc, some va, some vb => if ixOf ops 0 (.tmp k) < i then (match dstOf ops (ixOf ops 0 (.tmp k)) with | some d => if d = k then some (.pv (.bool (pickB vc va vb)), []) else none | none => none) else none
    | _, _, _ => none
  | op => match stepv P (evG p s.t s.g) s.h.length s.h op with
    | some x => stillB p x
    | none => none
def feet (s : RS) (p : Path) (op : Op) : List Nat := match op with
  | .pick _ _ _ => []
  | op => op.operands.toList.flatMap fun x => refs (evG p s.t s.g x)

theorem stepR_ok {p : Path} {r : AV} {d : List (Nat × ABlk)} (hp : pG ops s.g o.guard = p) (hg : gOkB ops i s.t o.guard = true) (hs : stepR P ops i o s p = some (r, d)) : OK1 P z ops i o s ⟨r, d, p, feet s p o.op⟩ := by
  have plain : (∀ c a b, o.op ≠ .pick c a b) → (match stepv P (evG p s.t s.g) s.h.length s.h o.op with
      | some x => stillB p x
      | none => none) = some (r, d) → OK1 P z ops i o s ⟨r, d, p, feet s p o.op⟩ := by
    intro hnp hs
    split at hs
    · rename_i x hst
      obtain ⟨rfl, hd⟩ := stillB_some hs
      refine ⟨hp.symm, hd, gOkB_spec hg, fun _ => ?_⟩
      have hf : feet s p o.op = o.op.operands.toList.flatMap fun x => refs (evG p s.t s.g x) := by
        unfold feet
        split
        · rename_i c a b e; exact absurd e (hnp c a b)
        · rfl
      rw [hf]
      exact LS.step hst
    · cases hs
  unfold stepR at hs
  split at hs
  · rename_i k a b hop
    split at hs
    · rename_i vc va vb h1 h2 h3
      split at hs
      · rename_i hix
        split at hs
        · rename_i d' hd
          split at hs
          · rename_i hk; subst hk
            injection hs with hs; simp only [Prod.mk.injEq] at hs; obtain ⟨rfl, rfl⟩ := hs
            refine ⟨hp.symm, fun _ => rfl, gOkB_spec hg, fun _ => ?_⟩
            have hf : feet s p o.op = [] := by rw [hop]; rfl
            rw [hf]
            exact LS.pick hop hix hd h1 h2 h3
          · cases hs
        · cases hs
      · cases hs
    · cases hs
  · rename_i op hne
    refine plain (fun c a b e => ?_) hs
    cases c with
    | tmp k => exact hne k a b e
    | const v =>
      rw [e] at hs
      simp [stepv] at hs
    | func f => rw [e] at hs; simp [stepv] at hs
    | global g => rw [e] at hs; simp [stepv] at hs

/-- Is a path surely not gone? -/
def ppF (ops : List Oper) (t : List AV) : Path → Bool
  | [] => false
  | (j, b) :: p => (match dstOf ops j with | some d => (match boolOf (t.getD d .any) with | some v => v != b | none => false) | none => false) || ppF ops t p
theorem ppF_not {ops : List Oper} {t : List AV} : ∀ {p : Path}, ppF ops t p = true → ¬ ppT ops t p
  | [], h => by cases h
  | (j, b) :: p, h => by
    simp only [ppF, Bool.or_eq_true] at h
    intro hh
    simp only [ppT] at hh
    rcases h with h | h
    · cases hd : dstOf ops j with
      | none => simp [hd] at h
      | some d =>
        simp only [hd] at h hh
        rw [hh.1] at h
        simp at h
    · exact ppF_not h hh.2
/-- Only what is asked is reckoned, until it is known: what follows stands as a function that nobody has applied. -/
def onS {α β : Type} (o : Option α) (f : α → β) (d : β) : β := match o with | some x => f x | none => d
@[go_sem] theorem onS_some {α β : Type} (x : α) (f : α → β) (d : β) : onS (some x) f d = f x := rfl
@[go_sem] theorem onS_none {α β : Type} (f : α → β) (d : β) : onS none f d = d := rfl
def onB {β : Type} (b : Bool) (x : Unit → β) (y : β) : β := if b = true then x () else y
@[go_sem] theorem onB_true {β : Type} (x : Unit → β) (y : β) : onB true x y = x () := rfl
@[go_sem] theorem onB_false {β : Type} (x : Unit → β) (y : β) : onB false x y = y := rfl

/-- As many plain operations as there are. -/
def runN (P : Program) (ops : List Oper) : Nat → List Oper → RS → Nat × List Oper × RS
  | i, [], s => (i, [], s)
  | i, o :: l, s => onB (gOkB ops i s.t o.guard) (fun _ => onS (stepR P ops i o s (pG ops s.g o.guard)) (fun x => runN P ops (i + 1) l ⟨putT s.t o.dst x.1, putG s.g o.dst (pG ops s.g o.guard), app s.h x.2⟩) ((i, o :: l, s))) (i, o :: l, s)
def runNA (P : Program) (ops : List Oper) (i : Nat) (o : Oper) (l : List Oper) (s : RS) (x : AV × List (Nat × ABlk)) : Nat × List Oper × RS := runN P ops (i + 1) l ⟨putT s.t o.dst x.1, putG s.g o.dst (pG ops s.g o.guard), app s.h x.2⟩
def runNB (P : Program) (ops : List Oper) (i : Nat) (o : Oper) (l : List Oper) (s : RS) (x : Unit) : Nat × List Oper × RS := onS (stepR P ops i o s (pG ops s.g o.guard)) (runNA P ops i o l s) ((i, o :: l, s))
@[go_sem] theorem runN_nil (P : Program) (ops : List Oper) (i : Nat) (s : RS) : runN P ops i [] s = (i, [], s) := by
  exact (Eq.refl _).trans rfl
@[go_sem] theorem runN_cons (P : Program) (ops : List Oper) (i : Nat) (o : Oper) (l : List Oper) (s : RS) : runN P ops i (o :: l) s = onB (gOkB ops i s.t o.guard) (runNB P ops i o l s) (i, o :: l, s) := by
  exact (Eq.refl _).trans rfl
@[go_sem] theorem runN_A (P : Program) (ops : List Oper) (i : Nat) (o : Oper) (l : List Oper) (s : RS) (x : AV × List (Nat × ABlk)) : runNA P ops i o l s x = runN P ops (i + 1) l ⟨putT s.t o.dst x.1, putG s.g o.dst (pG ops s.g o.guard), app s.h x.2⟩ := by
  exact (Eq.refl _).trans rfl
@[go_sem] theorem runN_B (P : Program) (ops : List Oper) (i : Nat) (o : Oper) (l : List Oper) (s : RS) (x : Unit) : runNB P ops i o l s x = onS (stepR P ops i o s (pG ops s.g o.guard)) (runNA P ops i o l s) ((i, o :: l, s)) := by
  exact (Eq.refl _).trans rfl
theorem ARN.run (h : ARN P z ops (runN P ops i l s).1 (runN P ops i l s).2.1 (runN P ops i l s).2.2 K) : ARN P z ops i l s K := by
  induction l generalizing i s with
  | nil => exact h
  | cons o l ih =>
    simp only [runN, onB, onS] at h
    split at h
    · rename_i hg
      split at h
      · rename_i r hs
        exact ARN.op (stepR_ok rfl hg hs) (ih h)
      · exact h
    · exact h
/-- The same, operations whose guard does not hold passed by. -/
def runNS (P : Program) (ops : List Oper) : Nat → List Oper → RS → Nat × List Oper × RS
  | i, [], s => (i, [], s)
  | i, o :: l, s => onB (gOkB ops i s.t o.guard) (fun _ => onS (stepR P ops i o s (pG ops s.g o.guard)) (fun x => runNS P ops (i + 1) l ⟨putT s.t o.dst x.1, putG s.g o.dst (pG ops s.g o.guard), app s.h x.2⟩) (onB (ppF ops s.t (pG ops s.g o.guard)) (fun _ => runNS P ops (i + 1) l ⟨putT s.t o.dst (.pv (.bool false)), putG s.g o.dst (pG ops s.g o.guard), s.h⟩) (i, o :: l, s))) (i, o :: l, s)
def runNSA (P : Program) (ops : List Oper) (i : Nat) (o : Oper) (l : List Oper) (s : RS) (x : AV × List (Nat × ABlk)) : Nat × List Oper × RS := runNS P ops (i + 1) l ⟨putT s.t o.dst x.1, putG s.g o.dst (pG ops s.g o.guard), app s.h x.2⟩
def runNSZ (P : Program) (ops : List Oper) (i : Nat) (o : Oper) (l : List Oper) (s : RS) (x : Unit) : Nat × List Oper × RS := runNS P ops (i + 1) l ⟨putT s.t o.dst (.pv (.bool false)), putG s.g o.dst (pG ops s.g o.guard), s.h⟩
def runNSB (P : Program) (ops : List Oper) (i : Nat) (o : Oper) (l : List Oper) (s : RS) (x : Unit) : Nat × List Oper × RS := onS (stepR P ops i o s (pG ops s.g o.guard)) (runNSA P ops i o l s) (onB (ppF ops s.t (pG ops s.g o.guard)) (runNSZ P ops i o l s) (i, o :: l, s))
@[go_sem] theorem runNS_nil (P : Program) (ops : List Oper) (i : Nat) (s : RS) : runNS P ops i [] s = (i, [], s) := by
  exact (Eq.refl _).trans rfl
@[go_sem] theorem runNS_cons (P : Program) (ops : List Oper) (i : Nat) (o : Oper) (l : List Oper) (s : RS) : runNS P ops i (o :: l) s = onB (gOkB ops i s.t o.guard) (runNSB P ops i o l s) (i, o :: l, s) := by
  exact (Eq.refl _).trans rfl
@[go_sem] theorem runNS_A (P : Program) (ops : List Oper) (i : Nat) (o : Oper) (l : List Oper) (s : RS) (x : AV × List (Nat × ABlk)) : runNSA P ops i o l s x = runNS P ops (i + 1) l ⟨putT s.t o.dst x.1, putG s.g o.dst (pG ops s.g o.guard), app s.h x.2⟩ := by
  exact (Eq.refl _).trans rfl
@[go_sem] theorem runNS_Z (P : Program) (ops : List Oper) (i : Nat) (o : Oper) (l : List Oper) (s : RS) (x : Unit) : runNSZ P ops i o l s x = runNS P ops (i + 1) l ⟨putT s.t o.dst (.pv (.bool false)), putG s.g o.dst (pG ops s.g o.guard), s.h⟩ := by
  exact (Eq.refl _).trans rfl
@[go_sem] theorem runNS_B (P : Program) (ops : List Oper) (i : Nat) (o : Oper) (l : List Oper) (s : RS) (x : Unit) : runNSB P ops i o l s x = onS (stepR P ops i o s (pG ops s.g o.guard)) (runNSA P ops i o l s) (onB (ppF ops s.t (pG ops s.g o.guard)) (runNSZ P ops i o l s) (i, o :: l, s)) := by
  exact (Eq.refl _).trans rfl
theorem ARN.runS (h : ARN P z ops (runNS P ops i l s).1 (runNS P ops i l s).2.1 (runNS P ops i l s).2.2 K) : ARN P z ops i l s K := by
  induction l generalizing i s with
  | nil => exact h
  | cons o l ih =>
    simp only [runNS, onB, onS] at h
    split at h
    · rename_i hg
      split at h
      · rename_i r hs
        exact ARN.op (stepR_ok rfl hg hs) (ih h)
      · split at h
        · rename_i hf
          exact ARN.op (e := ⟨.pv (.bool false), [], pG ops s.g o.guard, []⟩) ⟨rfl, fun _ => rfl, gOkB_spec hg, fun hh => (ppF_not hf hh).elim⟩ (ih h)
        · exact h
    · exact h
theorem ARD.plain {p : Path} {r : AV} {d : List (Nat × ABlk)} {ft : List Nat} (hp : pG ops s.g o.guard = p) (hg : gOkB ops i s.t o.guard = true) (hs : stepR P ops i o s p = some (r, d)) (hf : feet s p o.op = ft)
    (h : ARD P z ops (i + 1) l ⟨putT s.t o.dst r, putG s.g o.dst p, app s.h d⟩ (fun es s' => KD (⟨r, d, p, ft⟩ :: es) s')) : ARD P z ops i (o :: l) s KD := by
  subst hf
  exact ARD.op (stepR_ok hp hg hs) h

/-- As many plain operations as there are; what each came to is told. -/
def runD (P : Program) (ops : List Oper) : Nat → List Oper → RS → List PE → Nat × List Oper × RS × List PE
  | i, [], s, es => (i, [], s, es)
  | i, o :: l, s, es => onB (gOkB ops i s.t o.guard) (fun _ => onS (stepR P ops i o s (pG ops s.g o.guard)) (fun x => runD P ops (i + 1) l ⟨putT s.t o.dst x.1, putG s.g o.dst (pG ops s.g o.guard), app s.h x.2⟩ (⟨x.1, x.2, pG ops s.g o.guard, feet s (pG ops s.g o.guard) o.op⟩ :: es)) ((i, o :: l, s, es))) (i, o :: l, s, es)
def runDA (P : Program) (ops : List Oper) (i : Nat) (o : Oper) (l : List Oper) (s : RS) (es : List PE) (x : AV × List (Nat × ABlk)) : Nat × List Oper × RS × List PE := runD P ops (i + 1) l ⟨putT s.t o.dst x.1, putG s.g o.dst (pG ops s.g o.guard), app s.h x.2⟩ (⟨x.1, x.2, pG ops s.g o.guard, feet s (pG ops s.g o.guard) o.op⟩ :: es)
def runDB (P : Program) (ops : List Oper) (i : Nat) (o : Oper) (l : List Oper) (s : RS) (es : List PE) (x : Unit) : Nat × List Oper × RS × List PE := onS (stepR P ops i o s (pG ops s.g o.guard)) (runDA P ops i o l s es) ((i, o :: l, s, es))
@[go_sem] theorem runD_nil (P : Program) (ops : List Oper) (i : Nat) (s : RS) (es : List PE) : runD P ops i [] s es = (i, [], s, es) := by
  exact (Eq.refl _).trans rfl
@[go_sem] theorem runD_cons (P : Program) (ops : List Oper) (i : Nat) (o : Oper) (l : List Oper) (s : RS) (es : List PE) : runD P ops i (o :: l) s es = onB (gOkB ops i s.t o.guard) (runDB P ops i o l s es) (i, o :: l, s, es) := by
  exact (Eq.refl _).trans rfl
@[go_sem] theorem runD_A (P : Program) (ops : List Oper) (i : Nat) (o : Oper) (l : List Oper) (s : RS) (es : List PE) (x : AV × List (Nat × ABlk)) : runDA P ops i o l s es x = runD P ops (i + 1) l ⟨putT s.t o.dst x.1, putG s.g o.dst (pG ops s.g o.guard), app s.h x.2⟩ (⟨x.1, x.2, pG ops s.g o.guard, feet s (pG ops s.g o.guard) o.op⟩ :: es) := by
  exact (Eq.refl _).trans rfl
@[go_sem] theorem runD_B (P : Program) (ops : List Oper) (i : Nat) (o : Oper) (l : List Oper) (s : RS) (es : List PE) (x : Unit) : runDB P ops i o l s es x = onS (stepR P ops i o s (pG ops s.g o.guard)) (runDA P ops i o l s es) ((i, o :: l, s, es)) := by
  exact (Eq.refl _).trans rfl
/-- The same, operations whose guard does not hold passed by. -/
def runDS (P : Program) (ops : List Oper) : Nat → List Oper → RS → List PE → Nat × List Oper × RS × List PE
  | i, [], s, es => (i, [], s, es)
  | i, o :: l, s, es => onB (gOkB ops i s.t o.guard) (fun _ => onS (stepR P ops i o s (pG ops s.g o.guard)) (fun x => runDS P ops (i + 1) l ⟨putT s.t o.dst x.1, putG s.g o.dst (pG ops s.g o.guard), app s.h x.2⟩ (⟨x.1, x.2, pG ops s.g o.guard, feet s (pG ops s.g o.guard) o.op⟩ :: es)) (onB (ppF ops s.t (pG ops s.g o.guard)) (fun _ => runDS P ops (i + 1) l ⟨putT s.t o.dst (.pv (.bool false)), putG s.g o.dst (pG ops s.g o.guard), s.h⟩ (⟨.pv (.bool false), [], pG ops s.g o.guard, []⟩ :: es)) (i, o :: l, s, es))) (i, o :: l, s, es)
def runDSA (P : Program) (ops : List Oper) (i : Nat) (o : Oper) (l : List Oper) (s : RS) (es : List PE) (x : AV × List (Nat × ABlk)) : Nat × List Oper × RS × List PE := runDS P ops (i + 1) l ⟨putT s.t o.dst x.1, putG s.g o.dst (pG ops s.g o.guard), app s.h x.2⟩ (⟨x.1, x.2, pG ops s.g o.guard, feet s (pG ops s.g o.guard) o.op⟩ :: es)
def runDSZ (P : Program) (ops : List Oper) (i : Nat) (o : Oper) (l : List Oper) (s : RS) (es : List PE) (x : Unit) : Nat × List Oper × RS × List PE := runDS P ops (i + 1) l ⟨putT s.t o.dst (.pv (.bool false)), putG s.g o.dst (pG ops s.g o.guard), s.h⟩ (⟨.pv (.bool false), [], pG ops s.g o.guard, []⟩ :: es)
def runDSB (P : Program) (ops : List Oper) (i : Nat) (o : Oper) (l : List Oper) (s : RS) (es : List PE) (x : Unit) : Nat × List Oper × RS × List PE := onS (stepR P ops i o s (pG ops s.g o.guard)) (runDSA P ops i o l s es) (onB (ppF ops s.t (pG ops s.g o.guard)) (runDSZ P ops i o l s es) (i, o :: l, s, es))
@[go_sem] theorem runDS_nil (P : Program) (ops : List Oper) (i : Nat) (s : RS) (es : List PE) : runDS P ops i [] s es = (i, [], s, es) := by
  exact (Eq.refl _).trans rfl
@[go_sem] theorem runDS_cons (P : Program) (ops : List Oper) (i : Nat) (o : Oper) (l : List Oper) (s : RS) (es : List PE) : runDS P ops i (o :: l) s es = onB (gOkB ops i s.t o.guard) (runDSB P ops i o l s es) (i, o :: l, s, es) := by
  exact (Eq.refl _).trans rfl
@[go_sem] theorem runDS_A (P : Program) (ops : List Oper) (i : Nat) (o : Oper) (l : List Oper) (s : RS) (es : List PE) (x : AV × List (Nat × ABlk)) : runDSA P ops i o l s es x = runDS P ops (i + 1) l ⟨putT s.t o.dst x.1, putG s.g o.dst (pG ops s.g o.guard), app s.h x.2⟩ (⟨x.1, x.2, pG ops s.g o.guard, feet s (pG ops s.g o.guard) o.op⟩ :: es) := by
  exact (Eq.refl _).trans rfl
@[go_sem] theorem runDS_Z (P : Program) (ops : List Oper) (i : Nat) (o : Oper) (l : List Oper) (s : RS) (es : List PE) (x : Unit) : runDSZ P ops i o l s es x = runDS P ops (i + 1) l ⟨putT s.t o.dst (.pv (.bool false)), putG s.g o.dst (pG ops s.g o.guard), s.h⟩ (⟨.pv (.bool false), [], pG ops s.g o.guard, []⟩ :: es) := by
  exact (Eq.refl _).trans rfl
@[go_sem] theorem runDS_B (P : Program) (ops : List Oper) (i : Nat) (o : Oper) (l : List Oper) (s : RS) (es : List PE) (x : Unit) : runDSB P ops i o l s es x = onS (stepR P ops i o s (pG ops s.g o.guard)) (runDSA P ops i o l s es) (onB (ppF ops s.t (pG ops s.g o.guard)) (runDSZ P ops i o l s es) (i, o :: l, s, es)) := by
  exact (Eq.refl _).trans rfl
/-- The same, with what has been told so far (the last first). -/
def ARE (P : Program) (z : Ini) (ops : List Oper) (i : Nat) (l : List Oper) (s : RS) (es : List PE) (K : List PE → RS → Prop) : Prop := ARD P z ops i l s (fun es' s' => K (es.reverse ++ es') s')
theorem ARE.of {K : List PE → RS → Prop} (h : ARE P z ops i l s [] K) : ARD P z ops i l s K := by simpa [ARE] using h
theorem ARE.nil {es : List PE} {K : List PE → RS → Prop} (h : K es.reverse s) : ARE P z ops i [] s es K := ARD.nil (by simpa using h)
theorem ARE.op {e : PE} {es : List PE} {K : List PE → RS → Prop} (h : OK1 P z ops i o s e) (k : ARE P z ops (i + 1) l (s.put o e) (e :: es) K) : ARE P z ops i (o :: l) s es K := ARD.op h (by
  unfold ARE at k
  simpa using k)
theorem ARE.run {es : List PE} {K : List PE → RS → Prop} (h : ARE P z ops (runD P ops i l s es).1 (runD P ops i l s es).2.1 (runD P ops i l s es).2.2.1 (runD P ops i l s es).2.2.2 K) : ARE P z ops i l s es K := by
  induction l generalizing i s es with
  | nil => exact h
  | cons o l ih =>
    simp only [runD, onB, onS] at h
    split at h
    · rename_i hg
      split at h
      · rename_i r hs
        exact ARE.op (stepR_ok rfl hg hs) (ih h)
      · exact h
    · exact h
theorem ARE.runS {es : List PE} {K : List PE → RS → Prop} (h : ARE P z ops (runDS P ops i l s es).1 (runDS P ops i l s es).2.1 (runDS P ops i l s es).2.2.1 (runDS P ops i l s es).2.2.2 K) : ARE P z ops i l s es K := by
  induction l generalizing i s es with
  | nil => exact h
  | cons o l ih =>
    simp only [runDS, onB, onS] at h
    split at h
    · rename_i hg
      split at h
      · rename_i r hs
        exact ARE.op (stepR_ok rfl hg hs) (ih h)
      · split at h
        · rename_i hf
          exact ARE.op (e := ⟨.pv (.bool false), [], pG ops s.g o.guard, []⟩) ⟨rfl, fun _ => rfl, gOkB_spec hg, fun hh => (ppF_not hf hh).elim⟩ (ih h)
        · exact h
    · exact h
end

/-! ### Calls -/
section
variable {P : Program} {z : Ini} {ops : List Oper} {i : Nat} {l : List Oper} {s : RS} {o : Oper} {K : RS → Prop} {es : List PE} {KE : List PE → RS → Prop} {p : Path} {f : FuncId} {args : Array Operand} {tys : Array TypeId} {ps : List PV} {r : PV}

theorem operands_call (ho : o.op = .call ⟨.value (.func f), args, tys⟩) : .func f ∈ o.op.operands ∧ ∀ x ∈ args, x ∈ o.op.operands := by
  rw [ho]; exact ⟨by simp [Op.operands, Call.operands], fun x hx => by simp [Op.operands, Call.operands, hx]⟩

theorem LS.pcall (hc : PC P f ps r) (ho : o.op = .call ⟨.value (.func f), args, tys⟩) (hp : purL (args.toList.map (evG p s.t s.g)) = some ps) : LS P z ops i o s ⟨.pv r, [], p, []⟩ := by
  intro C h' c w ρ hC hpath hn hft hu M hfn hev
  classical
  obtain ⟨h1, h2⟩ := operands_call ho
  let ev' : Operand → AV := fun x => if x ∈ args then evG p s.t s.g x else .any
  refine Yields.pcall (ev := ev') M (fun x => ?_) (hfn f) ho ?_ hc
  · by_cases hx : x ∈ args
    · simp only [ev', if_pos hx]; exact hev x (h2 x hx) p hpath
    · simp only [ev', if_neg hx]; exact .any _
  · rw [← hp]
    congr 1
    exact List.map_congr_left fun x hx => by simp [ev', show x ∈ args from by simpa using hx]

theorem purHL_congr {S : Nat → Bool} {h h' : List ABlk} : ∀ {xs : List AV}, (∀ x ∈ xs, ∀ k ∈ refs x, EqN h h' k) → purHL S h' xs = purHL S h xs
  | [], _ => rfl
  | x :: xs, hh => by
    have h1 : purH S h' x = purH S h x := one (S := S) (h := h) (h' := h') x (hh x (by simp))
    have h2 := purHL_congr (S := S) (xs := xs) (fun y hy => hh y (by simp [hy]))
    simp only [purHL, h1, h2]
where
  one {S : Nat → Bool} {h h' : List ABlk} : ∀ (x : AV), (∀ k ∈ refs x, EqN h h' k) → purH S h' x = purH S h x
    | .pv p, _ => rfl
    | .agg xs, hh => by simp only [purH]; rw [many (S := S) (h := h) (h' := h') xs (by simpa [refs] using hh)]
    | .tup xs, hh => by simp only [purH]; rw [many (S := S) (h := h) (h' := h') xs (by simpa [refs] using hh)]
    | .ifc t x, hh => by simp only [purH]; rw [one (S := S) (h := h) (h' := h') x (by simpa [refs] using hh)]
    | .vs i off n, hh => by
      simp only [purH]
      rcases hh i (by simp [refs]) with e | ⟨e, e'⟩
      · rw [e]
      · rw [e, e']; cases S i <;> rfl
    | .ptr _ _, _ => rfl
    | .el _ _, _ => rfl
    | .ve _ _ _, _ => rfl
    | .sl _ _ _ _, _ => rfl
    | .fn _ _ _, _ => rfl
    | .mp _, _ => rfl
    | .any, _ => rfl
  many {S : Nat → Bool} {h h' : List ABlk} : ∀ (xs : List AV), (∀ k ∈ refsL xs, EqN h h' k) → purHL S h' xs = purHL S h xs
    | [], _ => rfl
    | x :: xs, hh => by
      simp only [purHL]
      rw [one (S := S) (h := h) (h' := h') x (fun k hk => hh k (by simp [refsL, hk])), many (S := S) (h := h) (h' := h') xs (fun k hk => hh k (by simp [refsL, hk]))]

theorem LS.pcallB (hc : PC P f ps r) (hr : scal r = true) (ho : o.op = .call ⟨.value (.func f), args, tys⟩) (hp : purHL (fun _ => true) s.h (args.toList.map (evG p s.t s.g)) = some ps) : LS P z ops i o s ⟨.pv r, [], p, args.toList.flatMap fun x => refs (evG p s.t s.g x)⟩ := by
  intro C h' c w ρ hC hpath hn hft hu M hfn hev
  classical
  obtain ⟨h1, h2⟩ := operands_call ho
  let ev' : Operand → AV := fun x => if x ∈ args then evG p s.t s.g x else .any
  have hm : args.toList.map ev' = args.toList.map (evG p s.t s.g) := List.map_congr_left fun x hx => by simp [ev', show x ∈ args from by simpa using hx]
  refine Yields.pcallB (ev := ev') M (fun x => ?_) (hfn f) ho ?_ hc hr
  · by_cases hx : x ∈ args
    · simp only [ev', if_pos hx]; exact hev x (h2 x hx) p hpath
    · simp only [ev', if_neg hx]; exact .any _
  · rw [hm, ← hp]
    refine purHL_congr fun x hx k hk => ?_
    rw [List.mem_map] at hx
    obtain ⟨y, hy, rfl⟩ := hx
    exact hft k (by simp only [List.mem_flatMap]; exact ⟨y, hy, hk⟩)

/-- A call whose arguments need no memory of the call's own. -/
theorem ARN.pcall (hc : ppT ops s.t p → PC P f ps r) (ho : o.op = .call ⟨.value (.func f), args, tys⟩) (hpp : pG ops s.g o.guard = p) (hg : gOkB ops i s.t o.guard = true) (hp : purL (args.toList.map (evG p s.t s.g)) = some ps)
    (h : ARN P z ops (i + 1) l ⟨putT s.t o.dst (.pv r), putG s.g o.dst p, s.h⟩ K) : ARN P z ops i (o :: l) s K :=
  ARN.op (e := ⟨.pv r, [], p, []⟩) ⟨hpp.symm, fun _ => rfl, gOkB_spec hg, fun hh => LS.pcall (hc hh) ho hp⟩ h
theorem ARN.pcallB (hc : ppT ops s.t p → PC P f ps r) (hr : scal r = true) (ho : o.op = .call ⟨.value (.func f), args, tys⟩) (hpp : pG ops s.g o.guard = p) (hg : gOkB ops i s.t o.guard = true) (hp : purHL (fun _ => true) s.h (args.toList.map (evG p s.t s.g)) = some ps)
    (h : ARN P z ops (i + 1) l ⟨putT s.t o.dst (.pv r), putG s.g o.dst p, s.h⟩ K) : ARN P z ops i (o :: l) s K :=
  ARN.op (e := ⟨.pv r, [], p, _⟩) ⟨hpp.symm, fun _ => rfl, gOkB_spec hg, fun hh => LS.pcallB (hc hh) hr ho hp⟩ h
theorem ARE.pcall (hc : ppT ops s.t p → PC P f ps r) (ho : o.op = .call ⟨.value (.func f), args, tys⟩) (hpp : pG ops s.g o.guard = p) (hg : gOkB ops i s.t o.guard = true) (hp : purL (args.toList.map (evG p s.t s.g)) = some ps)
    (h : ARE P z ops (i + 1) l ⟨putT s.t o.dst (.pv r), putG s.g o.dst p, s.h⟩ (⟨.pv r, [], p, []⟩ :: es) KE) : ARE P z ops i (o :: l) s es KE :=
  ARE.op (e := ⟨.pv r, [], p, []⟩) ⟨hpp.symm, fun _ => rfl, gOkB_spec hg, fun hh => LS.pcall (hc hh) ho hp⟩ h
theorem ARE.pcallB {ft : List Nat} (hc : ppT ops s.t p → PC P f ps r) (hr : scal r = true) (ho : o.op = .call ⟨.value (.func f), args, tys⟩) (hpp : pG ops s.g o.guard = p) (hg : gOkB ops i s.t o.guard = true) (hp : purHL (fun _ => true) s.h (args.toList.map (evG p s.t s.g)) = some ps)
    (hf : (args.toList.flatMap fun x => refs (evG p s.t s.g x)) = ft) (h : ARE P z ops (i + 1) l ⟨putT s.t o.dst (.pv r), putG s.g o.dst p, s.h⟩ (⟨.pv r, [], p, ft⟩ :: es) KE) : ARE P z ops i (o :: l) s es KE := by
  subst hf
  exact ARE.op (e := ⟨.pv r, [], p, _⟩) ⟨hpp.symm, fun _ => rfl, gOkB_spec hg, fun hh => LS.pcallB (hc hh) hr ho hp⟩ h
end

/-! ### Regions -/
section
variable {P : Program} {z : Ini} {σ : St} {Q : Exit → St → Prop} {id : Nat} {ops : List Oper}
theorem AW.regN (hd : distinctB ops = true) (h : ARN P z ops 0 ops ⟨σ.t, [], σ.h⟩ (fun s => Q .normal ⟨cleanT s.g s.t, s.h⟩)) : AW P z (.region id ops.toArray false) σ Q := by
  obtain ⟨es, s', hr, hq⟩ := h
  exact AW.regionT (es := es) (by simpa using hr) (by simpa using hd) hq
theorem AW.regD (hm : P.follows .mixedOrders = true) (hd : distinctB ops = true) (h : ARE P z ops 0 ops ⟨σ.t, [], σ.h⟩ [] (fun es s => drawOk ops (dsOf es) = true ∧ Q .normal ⟨cleanT s.g s.t, s.h⟩)) : AW P z (.region id ops.toArray true) σ Q := by
  obtain ⟨es, s', hr, hk, hq⟩ := ARE.of h
  exact AW.regionD hm (es := es) (by simpa using hr) (by simpa using hd) (by simpa using hk) hq
end
end Go.Ab
