/- The call's own memory in the machine's world; a call's state. -/
import Derived.Test.YtknlgjeeenkleaaA1
namespace Go.Ab
set_option linter.unusedVariables false
set_option linter.unusedSimpArgs false

/-- Block i of the call's own is a block of the machine's. -/
def lv (c : Cx) (h : List ABlk) (i : Nat) : Prop :=
  match h[i]? with
  | some (.box _) => True
  | some (.vec _ _) => 0 < (c.vd i).2
  | some (.mp _) => True
  | _ => False

/-- A block's content, as the world shows it. -/
def BRep (c : Cx) (h : List ABlk) (w : World) (i : Nat) : ABlk → Prop
  | .box cs => ∃ (vs : Array Value) (ty : TypeId), w.heap[c.mu i]? = some (.cells vs ty (0, 0)) ∧ vs.size = cs.length ∧
      ∀ (k : Nat) (x : AV), cs[k]? = some x → ∃ v, vs[k]? = some v ∧ v.oneCell' = true ∧ ARep c h w x v
  | .vec sz rows => rows.length ≤ (c.vd i).2 ∧ (∀ (j : Nat) (row : List PV), rows[j]? = some row → row.length = sz) ∧
      (0 < (c.vd i).2 → ∃ (vs : Array Value) (ty : TypeId), w.heap[c.mu i]? = some (.cells vs ty (0, 0)) ∧ vs.size = (c.vd i).1 + (c.vd i).2 * sz ∧
        ∀ (j : Nat) (row : List PV) (k : Nat) (p : PV), rows[j]? = some row → row[k]? = some p → ∃ v, vs[(c.vd i).1 + (j * sz + k)]? = some v ∧ v.oneCell' = true ∧ Rep c.ok w p v)
  | .mp es => ∃ (ms : Array MapEntry) (ck : Nat), w.heap[c.mu i]? = some (.map ms ck) ∧ ms.size = es.length ∧ (∀ e ∈ ms, e.born < ck) ∧
      ∀ (j : Nat) (k : PV) (x : List PV), es[j]? = some (k, x) → ∃ e, ms[j]? = some e ∧ Rep c.ok w k e.key ∧ Rep c.ok w (.agg x) (.agg e.val.cells)
  | _ => True

structure HSim (c : Cx) (h : List ABlk) (w : World) : Prop where
  blk : ∀ i b, h[i]? = some b → BRep c h w i b
  inj : ∀ i j, lv c h i → lv c h j → c.mu i = c.mu j → i = j
  nok : ∀ i, lv c h i → ¬ c.ok (c.mu i)
  okb : ∀ b, c.ok b → b < w.heap.size

/-- What stood when the call began and is not its own stands as it stood. -/
structure Fr (w₀ : World) (O : Nat → Prop) (w : World) : Prop where
  os : w.os = w₀.os
  tape : w.tape = w₀.tape
  output : w.output = w₀.output
  size : w₀.heap.size ≤ w.heap.size
  block : ∀ b, b < w₀.heap.size → ¬ O b → w.heap[b]? = w₀.heap[b]?

/-- What a call begins with: the world, the blocks that are its own, how names stand for blocks, how many names there are. -/
structure Ini where
  w : World
  O : Nat → Prop
  c : Cx
  n : Nat

/-- The machine's memory is one of what the plain memory says. -/
structure MSim (z : Ini) (h : List ABlk) (c : Cx) (w : World) : Prop where
  fr : Fr z.w z.O w
  hs : HSim c h w
  own : ∀ i, lv c h i → z.O (c.mu i) ∨ z.w.heap.size ≤ c.mu i
  okn : ∀ b, c.ok b → z.c.ok b ∨ z.O b ∨ z.w.heap.size ≤ b
  okm : ∀ b, z.c.ok b → c.ok b
  ext : z.n ≤ h.length ∧ ∀ i, i < z.n → c.mu i = z.c.mu i ∧ c.vd i = z.c.vd i

/-- The temporaries show what the plain ones say. -/
def TSim (c : Cx) (h : List ABlk) (w : World) (t : List AV) (u : Array Value) : Prop :=
  t.length = u.size ∧ ∀ (k : Nat) (x : AV) (v : Value), t[k]? = some x → u[k]? = some v → ARep c h w x v

/-- A call's state without memory: its temporaries, its memory. -/
structure St where
  t : List AV
  h : List ABlk

/-- The machine's state is one of what the plain state says. -/
structure Sim (z : Ini) (σ : St) (c : Cx) (a : Act) (w : World) : Prop where
  m : MSim z σ.h c w
  ts : TSim c σ.h w σ.t a.tmps
  df : a.defers = []

theorem TSim.tmp {c : Cx} {h : List ABlk} {w : World} {t : List AV} {u : Array Value} (s : TSim c h w t u) {k : Nat} {x : AV} (hk : t[k]? = some x) : ARep c h w x (u.getD k undef) := by
  have hlt : k < t.length := (List.getElem?_eq_some_iff.1 hk).1
  have hlt' : k < u.size := by rw [← s.1]; exact hlt
  exact s.2 k x _ hk (by simp [Array.getD_eq_getD_getElem?, Array.getElem?_eq_getElem hlt'])

theorem TSim.later {c c' : Cx} {h h' : List ABlk} {w w' : World} (l : Later c h w c' h' w') {t : List AV} {u : Array Value} (s : TSim c h w t u) : TSim c' h' w' t u :=
  ⟨s.1, fun k x v h1 h2 => (s.2 k x v h1 h2).later l⟩

/-- The plain temporaries with one put. -/
def putT (t : List AV) (dst : Option Tmp) (x : AV) : List AV := match dst with | some d => t.set d x | none => t

theorem TSim.put {c : Cx} {h : List ABlk} {w : World} {t : List AV} {a : Act} {x : AV} {v : Value} (s : TSim c h w t a.tmps) (hx : ARep c h w x v) (dst : Option Tmp) : TSim c h w (putT t dst x) (a.put dst v).tmps := by
  cases dst with
  | none => exact s
  | some d =>
    refine ⟨by simp [putT, Act.put, s.1], fun k x' v' h1 h2 => ?_⟩
    simp only [putT, Act.put, Array.getElem?_setIfInBounds, List.getElem?_set] at h1 h2
    by_cases hk : d = k
    · subst hk
      have hlt : d < t.length := by
        rcases Nat.lt_or_ge d t.length with h | h
        · exact h
        · simp [Nat.not_lt.2 h] at h1
      simp only [hlt, if_pos, ← s.1] at h1 h2
      injection h1 with h1; injection h2 with h2
      subst h1; subst h2; exact hx
    · simp only [if_neg hk] at h1 h2
      exact s.2 k x' v' h1 h2

theorem put_defers (a : Act) (dst : Option Tmp) (v : Value) : (a.put dst v).defers = a.defers := by cases dst <;> rfl

theorem Fr.refl (w : World) (O : Nat → Prop) : Fr w O w := ⟨rfl, rfl, rfl, Nat.le_refl _, fun _ _ _ => rfl⟩
theorem Fr.drew {w₀ w : World} {O : Nat → Prop} (h : Fr w₀ O w) : Fr w₀ O w.drew := ⟨h.os, h.tape, h.output, h.size, h.block⟩

/-- A world with the same heap shows the same. -/
theorem Later.same (c : Cx) (h : List ABlk) {w w' : World} (hw : w'.heap = w.heap) : Later c h w c h w' :=
  ⟨fun _ h => h, fun b _ => by rw [hw], fun i b hi hb => ⟨b, hi, hb, fun _ => ⟨rfl, rfl⟩, fun cs e => ⟨cs, e⟩, fun sz rows e => ⟨rows, e, Nat.le_refl _⟩, fun es e => ⟨es, e⟩⟩⟩

/-- A block that did not turn shows the same content later. -/
theorem BRep.later {c c' : Cx} {h h' : List ABlk} {w w' : World} (l : Later c h w c' h' w') {i : Nat} {b : ABlk} (hm : b ≠ .gone → c'.mu i = c.mu i ∧ c'.vd i = c.vd i)
    (hh : lv c h i → w'.heap[c.mu i]? = w.heap[c.mu i]?) (hi : h[i]? = some b) (r : BRep c h w i b) : BRep c' h' w' i b := by
  cases b with
  | nb => trivial
  | gone => trivial
  | box cs =>
    obtain ⟨vs, ty, h1, h2, h3⟩ := r
    have e := hm (by intro h; cases h)
    refine ⟨vs, ty, by rw [e.1, hh (by simp [lv, hi])]; exact h1, h2, fun k x hk => ?_⟩
    obtain ⟨v, hv, h1, hr⟩ := h3 k x hk
    exact ⟨v, hv, h1, hr.later l⟩
  | vec sz rows =>
    have e := hm (by intro h; cases h)
    unfold BRep at *
    rw [e.2, e.1]
    obtain ⟨h1, h2, h3⟩ := r
    refine ⟨h1, h2, fun hp => ?_⟩
    obtain ⟨vs, ty, h4, h5, h6⟩ := h3 hp
    refine ⟨vs, ty, by rw [hh (by simpa [lv, hi] using hp)]; exact h4, h5, fun j row k p hj hk => ?_⟩
    obtain ⟨v, hv, h1, hr⟩ := h6 j row k p hj hk
    exact ⟨v, hv, h1, hr.mono l.okm l.keep⟩
  | mp es =>
    have e := hm (by intro h; cases h)
    obtain ⟨ms, ck, h1, h2, h3, h4⟩ := r
    refine ⟨ms, ck, by rw [e.1, hh (by simp [lv, hi])]; exact h1, h2, h3, fun j k x hj => ?_⟩
    obtain ⟨en, g1, g2, g3⟩ := h4 j k x hj
    exact ⟨en, g1, g2.mono l.okm l.keep, g3.mono l.okm l.keep⟩

theorem MSim.same {z : Ini} {h : List ABlk} {c : Cx} {w w' : World} (s : MSim z h c w) (hw : w'.heap = w.heap) (h1 : w'.os = w.os) (h2 : w'.tape = w.tape) (h3 : w'.output = w.output) : MSim z h c w' :=
  ⟨⟨h1.trans s.fr.os, h2.trans s.fr.tape, h3.trans s.fr.output, by rw [hw]; exact s.fr.size, by rw [hw]; exact s.fr.block⟩,
    ⟨fun i b hi => (s.hs.blk i b hi).later (Later.same c h hw) (fun _ => ⟨rfl, rfl⟩) (fun _ => by rw [hw]) hi, s.hs.inj, s.hs.nok, by rw [hw]; exact s.hs.okb⟩, s.own, s.okn, s.okm, s.ext⟩

theorem Sim.drew {z : Ini} {σ : St} {c : Cx} {a : Act} {w : World} (s : Sim z σ c a w) : Sim z σ c a w.drew :=
  ⟨s.m.same rfl rfl rfl rfl, TSim.later (w := w) (w' := w.drew) (Later.same (w := w) (w' := w.drew) c σ.h rfl) s.ts, s.df⟩

/-! ### What an operation does to the memory, the temporaries aside -/

/-- The operation yields what r says, and leaves the memory h'. -/
def YieldsR (P : Program) (z : Ini) (c : Cx) (h : List ABlk) (w : World) (r : AV) (h' : List ABlk) : Result Next → Prop
  | .ok (.value v) w' => ∃ c', Later c h w c' h' w' ∧ MSim z h' c' w' ∧ ARep c' h' w' r v
  | .ok .skip w' => ∃ c', Later c h w c' h' w' ∧ MSim z h' c' w' ∧ ARep c' h' w' r undef
  | .ok (.enter f args) w' => Calls P f args w' fun e w'' => match e with
      | .returned v => ∃ c', Later c h w c' h' w'' ∧ MSim z h' c' w'' ∧ ARep c' h' w'' r v
      | _ => False
  | _ => False
def Yields (P : Program) (z : Ini) (o : Oper) (ρ : Operand → Value) (c : Cx) (h : List ABlk) (w : World) (r : AV) (h' : List ABlk) : Prop :=
  YieldsR P z c h w r h' ((execOp ρ o).run P w)

theorem Yields.wp {P : Program} {z : Ini} {o : Oper} {a : Act} {c : Cx} {h : List ABlk} {w : World} {r : AV} {h' : List ABlk} {next : Act → World → Prop} {Q : Exit → Act → World → Prop}
    (y : Yields P z o a.eval c h w r h') (hn : ∀ c' v w', Later c h w c' h' w' → MSim z h' c' w' → ARep c' h' w' r v → next (a.put o.dst v) w') : o.wp P a w next Q := by
  unfold Oper.wp
  unfold Yields at y
  generalize (execOp a.eval o).run P w = q at y
  cases q with
  | halt x w' => exact y.elim
  | ok n w' =>
    cases n <;> simp only [YieldsR] at y <;> simp only [Oper.upon]
    case value v => obtain ⟨c', h1, h2, h3⟩ := y; exact hn c' v w' h1 h2 h3
    case skip => obtain ⟨c', h1, h2, h3⟩ := y; exact hn c' _ w' h1 h2 h3
    case enter f args =>
      refine y.mono fun e w'' he => ?_
      cases e with
      | returned v => obtain ⟨c', h1, h2, h3⟩ := he; exact hn c' v w'' h1 h2 h3
      | panicked _ => exact he.elim
      | outgrown => exact he.elim
end Go.Ab
