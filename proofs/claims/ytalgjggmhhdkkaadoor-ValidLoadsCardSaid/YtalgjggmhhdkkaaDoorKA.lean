/- Values without memory, a call's own memory, and what the machine does with it. -/
import Derived.WalkKit
import Derived.KernelRfl
import Derived.Deep.Draws
import Derived.Laws.CopyRow
import Derived.Laws.Slices
import Derived.Great.BuildSlice
import Derived.Deep.AppendSrc
import Derived.Laws.AppendOwn
import Derived.Deep.Upon
import Derived.Laws.BytesString
import Derived.Laws.MakeOwn
namespace Go.Ab
def gl0 : Option (Nat × Value) := some (0, .iface 82 (.agg #[.pointer (some ⟨2, 51, none⟩)]))
end Go.Ab
namespace Go.Ab
set_option linter.unusedVariables false
set_option linter.unusedSimpArgs false

/-! ### Values -/

/-- A value that needs no memory of the call's own: numbers, truths, texts, lists that nobody changes any more (each element a row of cells; 'full': there is no room behind the last). -/
inductive PV where
  | int (k : IntKind) (n : Int)
  | bool (b : Bool)
  | str (s : ByteArray)
  | lst (full : Bool) (sz : Nat) (rows : List (List PV))
  | agg (cs : List PV)
  | tup (vs : List PV)
  | ifc (t : TypeId) (v : PV)
  | nilIfc
  | nilFn
  | nilPtr
  | nilMap

/-- A value of a running call: besides a PV: addresses into the call's own memory, elements of lists, slices of its own, functions. -/
inductive AV where
  | pv (p : PV)
  | ptr (i off : Nat)
  | el (row : List PV) (off : Nat)
  | vs (i off n : Nat)
  | ve (i r off : Nat)
  | sl (i off n cap : Nat)
  | agg (cs : List AV)
  | tup (vs : List AV)
  | fn (f : Fn) (first captured : List AV)
  | ifc (t : TypeId) (v : AV)
  | mp (i : Nat)
  | any

/-- A block of the call's own memory: not yet there, given up, a row of cells, a slice that may grow, a map ('none') or one that goes through a map (which one, how many entries it had; of these, the numbers of those that were met). -/
inductive ABlk where
  | nb
  | gone
  | box (cs : List AV)
  | vec (sz : Nat) (rows : List (List PV))
  | mp (k : Option (Nat × Nat)) (es : List (PV × PV))

/-- How names of blocks stand for the machine's: the block; of a slice where it begins in it and its capacity; which blocks nobody changes. -/
structure Cx where
  mu : Nat → Nat
  vd : Nat → Nat × Nat
  ok : Nat → Prop

/-- What a world shows of a PV. -/
inductive Rep (ok : Nat → Prop) (w : World) : PV → Value → Prop
  | int (k : IntKind) (n : Int) : Rep ok w (.int k n) (.int k n)
  | bool (b : Bool) : Rep ok w (.bool b) (.bool b)
  | str (s : ByteArray) : Rep ok w (.str s) (.string s)
  | lst (full : Bool) (sz : Nat) (rows : List (List PV)) (A : Option Addr) (c : Nat) (us : Nat → Nat → Value)
      (hlen : ∀ (j : Nat) (row : List PV), rows[j]? = some row → row.length = sz) (hc : rows.length ≤ c) (hf : full = true → c = rows.length)
      (hA : 0 < rows.length → ∃ ad, A = some ad)
      (hcell : ∀ (ad : Addr), A = some ad → ∀ (j : Nat) (row : List PV) (k : Nat) (p : PV), rows[j]? = some row → row[k]? = some p → ok ad.block ∧ w.cell? (ad.add (j * sz + k)) = some (us j k) ∧ (us j k).oneCell' = true)
      (hrep : ∀ (j : Nat) (row : List PV) (k : Nat) (p : PV), rows[j]? = some row → row[k]? = some p → Rep ok w p (us j k)) :
      Rep ok w (.lst full sz rows) (.slice A rows.length c)
  | agg (ps : List PV) (vs : List Value) (hl : ps.length = vs.length) (ho : ∀ v ∈ vs, v.oneCell' = true) (h : ∀ (k : Nat) (p : PV) (v : Value), ps[k]? = some p → vs[k]? = some v → Rep ok w p v) : Rep ok w (.agg ps) (.agg vs.toArray)
  | tup (ps : List PV) (vs : List Value) (hl : ps.length = vs.length) (h : ∀ (k : Nat) (p : PV) (v : Value), ps[k]? = some p → vs[k]? = some v → Rep ok w p v) : Rep ok w (.tup ps) (.tuple vs.toArray)
  | ifc (t : TypeId) (p : PV) (v : Value) (h : Rep ok w p v) : Rep ok w (.ifc t p) (.iface t v)
  | nilIfc : Rep ok w .nilIfc .nilIface
  | nilFn : Rep ok w .nilFn .nilFunc
  | nilPtr : Rep ok w .nilPtr (.pointer none)
  | nilMap : Rep ok w .nilMap (.map none)

/-- Of the blocks of S the second world shows what the first does. -/
def Keep (S : Nat → Prop) (w w' : World) : Prop := ∀ b, S b → w'.heap[b]? = w.heap[b]?

theorem Keep.cell {S : Nat → Prop} {w w' : World} (h : Keep S w w') {a : Addr} (ha : S a.block) : w'.cell? a = w.cell? a := by
  simp only [World.cell?, h _ ha]

theorem Addr.add_block (a : Addr) (n : Nat) : (a.add n).block = a.block := by unfold Addr.add; split <;> rfl
theorem Addr.add_add (a : Addr) (m n : Nat) : (a.add m).add n = a.add (m + n) := by
  unfold Addr.add
  by_cases h1 : m = 0 <;> by_cases h2 : n = 0 <;> simp [h1, h2, Nat.add_assoc]
theorem Addr.add_plain (b o n : Nat) : (⟨b, o, none⟩ : Addr).add n = ⟨b, o + n, none⟩ := by unfold Addr.add; split <;> simp_all

theorem Rep.mono {ok ok' : Nat → Prop} {w w' : World} (hk : ∀ b, ok b → ok' b) (hw : Keep ok w w') {p : PV} {v : Value} (h : Rep ok w p v) : Rep ok' w' p v := by
  induction h with
  | int | bool | str | nilIfc | nilFn | nilPtr | nilMap => constructor
  | lst full sz rows A c us hlen hc hf hA hcell hrep ih =>
    refine .lst full sz rows A c us hlen hc hf hA (fun ad e j row k p h1 h2 => ?_) ih
    obtain ⟨h3, h4, h5⟩ := hcell ad e j row k p h1 h2
    exact ⟨hk _ h3, by rw [hw.cell (by rw [Addr.add_block]; exact h3)]; exact h4, h5⟩
  | agg ps vs hl ho h ih => exact .agg ps vs hl ho ih
  | tup ps vs hl h ih => exact .tup ps vs hl ih
  | ifc t p v h ih => exact .ifc t p v ih

/-- What a world shows of an AV. -/
inductive ARep (c : Cx) (h : List ABlk) (w : World) : AV → Value → Prop
  | pv (p : PV) (v : Value) (hr : Rep c.ok w p v) : ARep c h w (.pv p) v
  | ptr (i off : Nat) (v : Value) (b : ABlk) (ho : v.oneCell' = true) (hi : h[i]? = some b) (hb : b ≠ .nb) (hv : ∀ cs, b = .box cs → v = .pointer (some ⟨c.mu i, off, none⟩)) : ARep c h w (.ptr i off) v
  | el (row : List PV) (off : Nat) (a : Addr) (us : Nat → Value) (hcell : ∀ (k : Nat) (p : PV), row[k]? = some p → c.ok a.block ∧ w.cell? (a.add k) = some (us k) ∧ (us k).oneCell' = true ∧ Rep c.ok w p (us k)) :
      ARep c h w (.el row off) (.pointer (some (a.add off)))
  | vs (i off n : Nat) (v : Value) (b : ABlk) (ho : v.oneCell' = true) (hi : h[i]? = some b) (hb : b ≠ .nb)
      (hv : ∀ sz rows, b = .vec sz rows → off + n ≤ rows.length ∧ ∃ A, v = .slice A n ((c.vd i).2 - off) ∧ (off < (c.vd i).2 → A = some ⟨c.mu i, (c.vd i).1 + off * sz, none⟩)) : ARep c h w (.vs i off n) v
  | ve (i r off : Nat) (v : Value) (b : ABlk) (ho : v.oneCell' = true) (hi : h[i]? = some b) (hb : b ≠ .nb)
      (hv : ∀ sz rows, b = .vec sz rows → v = .pointer (some ⟨c.mu i, (c.vd i).1 + r * sz + off, none⟩)) : ARep c h w (.ve i r off) v
  | sl (i off n cap : Nat) (v : Value) (b : ABlk) (ho : v.oneCell' = true) (hi : h[i]? = some b) (hb : b ≠ .nb)
      (hv : ∀ cs, b = .box cs → n ≤ cap ∧ ∃ A, v = .slice A n cap ∧ (0 < cap → A = some ⟨c.mu i, off, none⟩)) : ARep c h w (.sl i off n cap) v
  | agg (xs : List AV) (vs : List Value) (hl : xs.length = vs.length) (ho : ∀ v ∈ vs, v.oneCell' = true) (hr : ∀ (k : Nat) (x : AV) (v : Value), xs[k]? = some x → vs[k]? = some v → ARep c h w x v) : ARep c h w (.agg xs) (.agg vs.toArray)
  | tup (xs : List AV) (vs : List Value) (hl : xs.length = vs.length) (hr : ∀ (k : Nat) (x : AV) (v : Value), xs[k]? = some x → vs[k]? = some v → ARep c h w x v) : ARep c h w (.tup xs) (.tuple vs.toArray)
  | fn (f : Fn) (xs ys : List AV) (us vs : List Value) (hl : xs.length = us.length) (hr : ∀ (k : Nat) (x : AV) (v : Value), xs[k]? = some x → us[k]? = some v → ARep c h w x v)
      (hl' : ys.length = vs.length) (hr' : ∀ (k : Nat) (x : AV) (v : Value), ys[k]? = some x → vs[k]? = some v → ARep c h w x v) : ARep c h w (.fn f xs ys) (.func f us.toArray vs.toArray)
  | ifc (t : TypeId) (x : AV) (v : Value) (hr : ARep c h w x v) : ARep c h w (.ifc t x) (.iface t v)
  | mp (i : Nat) (v : Value) (b : ABlk) (ho : v.oneCell' = true) (hi : h[i]? = some b) (hb : b ≠ .nb) (hv : ∀ k es, b = .mp k es → v = if k.isNone then .map (some (c.mu i)) else .pointer (some ⟨c.mu i, 0, none⟩)) : ARep c h w (.mp i) v
  | any (v : Value) : ARep c h w .any v

/-- From one state of a call's memory to a later one: what was given up stays so; what is there stays what it is, or is given up. -/
structure Later (c : Cx) (h : List ABlk) (w : World) (c' : Cx) (h' : List ABlk) (w' : World) : Prop where
  okm : ∀ b, c.ok b → c'.ok b
  keep : Keep c.ok w w'
  blk : ∀ i b, h[i]? = some b → b ≠ .nb → ∃ b', h'[i]? = some b' ∧ b' ≠ .nb ∧ (b' ≠ .gone → c'.mu i = c.mu i ∧ c'.vd i = c.vd i) ∧
    (∀ cs', b' = .box cs' → ∃ cs, b = .box cs) ∧ (∀ sz rows', b' = .vec sz rows' → ∃ rows, b = .vec sz rows ∧ rows.length ≤ rows'.length) ∧ (∀ k es', b' = .mp k es' → ∃ es, b = .mp k es)

theorem Later.refl (c : Cx) (h : List ABlk) (w : World) : Later c h w c h w :=
  ⟨fun _ h => h, fun _ _ => rfl, fun i b hi hb => ⟨b, hi, hb, fun _ => ⟨rfl, rfl⟩, fun cs e => ⟨cs, e⟩, fun sz rows e => ⟨rows, e, Nat.le_refl _⟩, fun k es e => ⟨es, e⟩⟩⟩

theorem Later.trans {c c₁ c₂ : Cx} {h h₁ h₂ : List ABlk} {w w₁ w₂ : World} (a : Later c h w c₁ h₁ w₁) (b : Later c₁ h₁ w₁ c₂ h₂ w₂) : Later c h w c₂ h₂ w₂ := by
  refine ⟨fun x hx => b.okm x (a.okm x hx), fun x hx => (b.keep x (a.okm x hx)).trans (a.keep x hx), fun i x hi hx => ?_⟩
  obtain ⟨y, hy, ny, my, b1, v1, p1⟩ := a.blk i x hi hx
  obtain ⟨z, hz, nz, mz, b2, v2, p2⟩ := b.blk i y hy ny
  refine ⟨z, hz, nz, fun ng => ?_, fun cs e => ?_, fun sz rows e => ?_, fun k es e => ?_⟩
  · have hyg : y ≠ .gone := by
      intro e
      cases z with
      | nb => exact nz rfl
      | gone => exact ng rfl
      | box cs => obtain ⟨cs', e'⟩ := b2 cs rfl; rw [e] at e'; cases e'
      | vec sz rows => obtain ⟨r', e', _⟩ := v2 sz rows rfl; rw [e] at e'; cases e'
      | mp k es => obtain ⟨r', e'⟩ := p2 k es rfl; rw [e] at e'; cases e'
    exact ⟨(mz ng).1.trans (my hyg).1, (mz ng).2.trans (my hyg).2⟩
  · obtain ⟨cs', e'⟩ := b2 cs e; exact b1 cs' e'
  · obtain ⟨r', e', hl⟩ := v2 sz rows e
    obtain ⟨r, e'', hl'⟩ := v1 sz r' e'
    exact ⟨r, e'', Nat.le_trans hl' hl⟩
  · obtain ⟨es', e'⟩ := p2 k es e; exact p1 k es' e'

theorem ARep.later {c c' : Cx} {h h' : List ABlk} {w w' : World} (l : Later c h w c' h' w') {x : AV} {v : Value} (r : ARep c h w x v) : ARep c' h' w' x v := by
  induction r with
  | pv p v hr => exact .pv p v (hr.mono l.okm l.keep)
  | ptr i off v b ho hi hb hv =>
    obtain ⟨b', hi', hb', hm, h1, _, _⟩ := l.blk i b hi hb
    refine .ptr i off v b' ho hi' hb' fun cs e => ?_
    obtain ⟨cs', e'⟩ := h1 cs e
    rw [hv cs' e', (hm (by rw [e]; intro h; cases h)).1]
  | el row off a us hcell =>
    refine .el row off a us fun k p hk => ?_
    obtain ⟨h1, h2, h4, h3⟩ := hcell k p hk
    exact ⟨l.okm _ h1, by rw [l.keep.cell (by rw [Addr.add_block]; exact h1)]; exact h2, h4, h3.mono l.okm l.keep⟩
  | vs i off n v b ho hi hb hv =>
    obtain ⟨b', hi', hb', hm, _, h1, _⟩ := l.blk i b hi hb
    refine .vs i off n v b' ho hi' hb' fun sz rows e => ?_
    obtain ⟨rows', e', hl⟩ := h1 sz rows e
    obtain ⟨g1, A, g2, g3⟩ := hv sz rows' e'
    have hmm := hm (by rw [e]; intro h; cases h)
    rw [hmm.1, hmm.2]
    exact ⟨by omega, A, g2, g3⟩
  | ve i r off v b ho hi hb hv =>
    obtain ⟨b', hi', hb', hm, _, h1, _⟩ := l.blk i b hi hb
    refine .ve i r off v b' ho hi' hb' fun sz rows e => ?_
    obtain ⟨rows', e', hl⟩ := h1 sz rows e
    have hmm := hm (by rw [e]; intro h; cases h)
    rw [hv sz rows' e', hmm.1, hmm.2]
  | sl i off n cap v b ho hi hb hv =>
    obtain ⟨b', hi', hb', hm, h1, _, _⟩ := l.blk i b hi hb
    refine .sl i off n cap v b' ho hi' hb' fun cs e => ?_
    obtain ⟨cs', e'⟩ := h1 cs e
    rw [(hm (by rw [e]; intro h; cases h)).1]
    exact hv cs' e'
  | agg xs vs hl ho hr ih => exact .agg xs vs hl ho ih
  | tup xs vs hl hr ih => exact .tup xs vs hl ih
  | fn f xs ys us vs hl hr hl' hr' ih ih' => exact .fn f xs ys us vs hl ih hl' ih'
  | ifc t x v hr ih => exact .ifc t x v ih
  | mp i v b ho hi hb hv =>
    obtain ⟨b', hi', hb', hm, _, _, h1⟩ := l.blk i b hi hb
    refine .mp i v b' ho hi' hb' fun k es e => ?_
    obtain ⟨es', e'⟩ := h1 k es e
    rw [hv k es' e', (hm (by rw [e]; intro h; cases h)).1]
  | any v => exact .any v
end Go.Ab
namespace Go.Ab
set_option linter.unusedVariables false
set_option linter.unusedSimpArgs false

/-- Block i of the call's own is a block of the machine's. -/
def lv (c : Cx) (h : List ABlk) (i : Nat) : Prop :=
  match h[i]? with
  | some (.box _) => True
  | some (.vec _ _) => 0 < (c.vd i).2
  | some (.mp _ _) => True
  | _ => False

/-- An entry's number, as the plain memory has it. -/
def metN : PV → Nat
  | .int _ n => n.toNat
  | _ => 0
/-- A block's content, as the world shows it. -/
def BRep (c : Cx) (h : List ABlk) (w : World) (i : Nat) : ABlk → Prop
  | .box cs => ∃ (vs : Array Value) (ty : TypeId), w.heap[c.mu i]? = some (.cells vs ty (0, 0)) ∧ vs.size = cs.length ∧
      ∀ (k : Nat) (x : AV), cs[k]? = some x → ∃ v, vs[k]? = some v ∧ v.oneCell' = true ∧ ARep c h w x v
  | .vec sz rows => rows.length ≤ (c.vd i).2 ∧ (∀ (j : Nat) (row : List PV), rows[j]? = some row → row.length = sz) ∧
      (0 < (c.vd i).2 → ∃ (vs : Array Value) (ty : TypeId), w.heap[c.mu i]? = some (.cells vs ty (0, 0)) ∧ vs.size = (c.vd i).1 + (c.vd i).2 * sz ∧
        ∀ (j : Nat) (row : List PV) (k : Nat) (p : PV), rows[j]? = some row → row[k]? = some p → ∃ v, vs[(c.vd i).1 + (j * sz + k)]? = some v ∧ v.oneCell' = true ∧ Rep c.ok w p v)
  | .mp none es => ∃ (ms : Array MapEntry), w.heap[c.mu i]? = some (.map ms es.length) ∧ ms.size = es.length ∧
      ∀ (j : Nat) (k x : PV), es[j]? = some (k, x) → ∃ e, ms[j]? = some e ∧ e.born = j ∧ Rep c.ok w k e.key ∧ Rep c.ok w x e.val
  | .mp (some (m, n)) es => ∃ g, ARep c h w (.mp m) (.map (some g)) ∧ w.heap[c.mu i]? = some (.mapIter (some g) n (es.map fun e => metN e.1).toArray n)
  | _ => True

structure HSim (c : Cx) (h : List ABlk) (w : World) : Prop where
  blk : ∀ i b, h[i]? = some b → BRep c h w i b
  inj : ∀ i j, lv c h i → lv c h j → c.mu i = c.mu j → i = j
  nok : ∀ i, lv c h i → ¬ c.ok (c.mu i)
  okb : ∀ b, c.ok b → b < w.heap.size

/-- What stood when the call began and is not its own stands as it stood. -/
structure Fr (w₀ : World) (O : Nat → Prop) (w : World) : Prop where
  os : w.os = w₀.os
  tape : w.tape = w₀.tape
  output : w.output = w₀.output
  size : w₀.heap.size ≤ w.heap.size
  block : ∀ b, b < w₀.heap.size → ¬ O b → w.heap[b]? = w₀.heap[b]?

/-- The package variable whose value is known stands as it is. -/
def Glob (w : World) : Prop := ∀ x, gl0 = some x → x.1 < w.heap.size ∧ w.cell? ⟨x.1, 0, none⟩ = some x.2
/-- What a call begins with: the world, the blocks that are its own, how names stand for blocks, how many names there are. -/
structure Ini where
  w : World
  O : Nat → Prop
  c : Cx
  n : Nat
  g : Glob w
  go : ∀ x, gl0 = some x → ¬ O x.1

/-- The machine's memory is one of what the plain memory says. -/
structure MSim (z : Ini) (h : List ABlk) (c : Cx) (w : World) : Prop where
  fr : Fr z.w z.O w
  hs : HSim c h w
  own : ∀ i, lv c h i → z.O (c.mu i) ∨ z.w.heap.size ≤ c.mu i
  okn : ∀ b, c.ok b → z.c.ok b ∨ z.O b ∨ z.w.heap.size ≤ b
  okm : ∀ b, z.c.ok b → c.ok b
  ext : z.n ≤ h.length ∧ ∀ i, i < z.n → c.mu i = z.c.mu i ∧ c.vd i = z.c.vd i

theorem MSim.glob {z : Ini} {h : List ABlk} {c : Cx} {w : World} (s : MSim z h c w) : Glob w := fun x hx => by
  obtain ⟨h1, h2⟩ := z.g x hx
  exact ⟨Nat.lt_of_lt_of_le h1 s.fr.size, by rw [← h2]; simp only [World.cell?, s.fr.block _ h1 (z.go x hx)]⟩
/-- The temporaries show what the plain ones say. -/
def TSim (c : Cx) (h : List ABlk) (w : World) (t : List AV) (u : Array Value) : Prop :=
  t.length = u.size ∧ ∀ (k : Nat) (x : AV) (v : Value), t[k]? = some x → u[k]? = some v → ARep c h w x v

/-- A call's state without memory: its temporaries, its memory. -/
structure St where
  t : List AV
  h : List ABlk

/-- The machine's state is one of what the plain state says. -/
structure Sim (z : Ini) (σ : St) (c : Cx) (a : Act) (w : World) : Prop where
  m : MSim z σ.h c w
  ts : TSim c σ.h w σ.t a.tmps
  df : a.defers = []

theorem TSim.tmp {c : Cx} {h : List ABlk} {w : World} {t : List AV} {u : Array Value} (s : TSim c h w t u) {k : Nat} {x : AV} (hk : t[k]? = some x) : ARep c h w x (u.getD k undef) := by
  have hlt : k < t.length := (List.getElem?_eq_some_iff.1 hk).1
  have hlt' : k < u.size := by rw [← s.1]; exact hlt
  exact s.2 k x _ hk (by simp [Array.getD_eq_getD_getElem?, Array.getElem?_eq_getElem hlt'])

theorem TSim.later {c c' : Cx} {h h' : List ABlk} {w w' : World} (l : Later c h w c' h' w') {t : List AV} {u : Array Value} (s : TSim c h w t u) : TSim c' h' w' t u :=
  ⟨s.1, fun k x v h1 h2 => (s.2 k x v h1 h2).later l⟩

/-- The plain temporaries with one put. -/
def putT (t : List AV) (dst : Option Tmp) (x : AV) : List AV := match dst with | some d => t.set d x | none => t

theorem TSim.put {c : Cx} {h : List ABlk} {w : World} {t : List AV} {a : Act} {x : AV} {v : Value} (s : TSim c h w t a.tmps) (hx : ARep c h w x v) (dst : Option Tmp) : TSim c h w (putT t dst x) (a.put dst v).tmps := by
  cases dst with
  | none => exact s
  | some d =>
    refine ⟨by simp [putT, Act.put, s.1], fun k x' v' h1 h2 => ?_⟩
    simp only [putT, Act.put, Array.getElem?_setIfInBounds, List.getElem?_set] at h1 h2
    by_cases hk : d = k
    · subst hk
      have hlt : d < t.length := by
        rcases Nat.lt_or_ge d t.length with h | h
        · exact h
        · simp [Nat.not_lt.2 h] at h1
      simp only [hlt, if_pos, ← s.1] at h1 h2
      injection h1 with h1; injection h2 with h2
      subst h1; subst h2; exact hx
    · simp only [if_neg hk] at h1 h2
      exact s.2 k x' v' h1 h2

theorem put_defers (a : Act) (dst : Option Tmp) (v : Value) : (a.put dst v).defers = a.defers := by cases dst <;> rfl

theorem Fr.refl (w : World) (O : Nat → Prop) : Fr w O w := ⟨rfl, rfl, rfl, Nat.le_refl _, fun _ _ _ => rfl⟩
theorem Fr.drew {w₀ w : World} {O : Nat → Prop} (h : Fr w₀ O w) : Fr w₀ O w.drew := ⟨h.os, h.tape, h.output, h.size, h.block⟩

/-- A world with the same heap shows the same. -/
theorem Later.same (c : Cx) (h : List ABlk) {w w' : World} (hw : w'.heap = w.heap) : Later c h w c h w' :=
  ⟨fun _ h => h, fun b _ => by rw [hw], fun i b hi hb => ⟨b, hi, hb, fun _ => ⟨rfl, rfl⟩, fun cs e => ⟨cs, e⟩, fun sz rows e => ⟨rows, e, Nat.le_refl _⟩, fun k es e => ⟨es, e⟩⟩⟩

/-- A block that did not turn shows the same content later. -/
theorem BRep.later {c c' : Cx} {h h' : List ABlk} {w w' : World} (l : Later c h w c' h' w') {i : Nat} {b : ABlk} (hm : b ≠ .gone → c'.mu i = c.mu i ∧ c'.vd i = c.vd i)
    (hh : lv c h i → w'.heap[c.mu i]? = w.heap[c.mu i]?) (hi : h[i]? = some b) (r : BRep c h w i b) : BRep c' h' w' i b := by
  cases b with
  | nb => trivial
  | gone => trivial
  | box cs =>
    obtain ⟨vs, ty, h1, h2, h3⟩ := r
    have e := hm (by intro h; cases h)
    refine ⟨vs, ty, by rw [e.1, hh (by simp [lv, hi])]; exact h1, h2, fun k x hk => ?_⟩
    obtain ⟨v, hv, h1, hr⟩ := h3 k x hk
    exact ⟨v, hv, h1, hr.later l⟩
  | vec sz rows =>
    have e := hm (by intro h; cases h)
    unfold BRep at *
    rw [e.2, e.1]
    obtain ⟨h1, h2, h3⟩ := r
    refine ⟨h1, h2, fun hp => ?_⟩
    obtain ⟨vs, ty, h4, h5, h6⟩ := h3 hp
    refine ⟨vs, ty, by rw [hh (by simpa [lv, hi] using hp)]; exact h4, h5, fun j row k p hj hk => ?_⟩
    obtain ⟨v, hv, h1, hr⟩ := h6 j row k p hj hk
    exact ⟨v, hv, h1, hr.mono l.okm l.keep⟩
  | mp k es =>
    have e := hm (by intro h; cases h)
    cases k with
    | none =>
      obtain ⟨ms, h1, h2, h4⟩ := r
      refine ⟨ms, by rw [e.1, hh (by simp [lv, hi])]; exact h1, h2, fun j k x hj => ?_⟩
      obtain ⟨en, g1, g0, g2, g3⟩ := h4 j k x hj
      exact ⟨en, g1, g0, g2.mono l.okm l.keep, g3.mono l.okm l.keep⟩
    | some mn =>
      obtain ⟨m, n⟩ := mn
      obtain ⟨g, h1, h2⟩ := r
      exact ⟨g, h1.later l, by rw [e.1, hh (by simp [lv, hi])]; exact h2⟩

theorem MSim.same {z : Ini} {h : List ABlk} {c : Cx} {w w' : World} (s : MSim z h c w) (hw : w'.heap = w.heap) (h1 : w'.os = w.os) (h2 : w'.tape = w.tape) (h3 : w'.output = w.output) : MSim z h c w' :=
  ⟨⟨h1.trans s.fr.os, h2.trans s.fr.tape, h3.trans s.fr.output, by rw [hw]; exact s.fr.size, by rw [hw]; exact s.fr.block⟩,
    ⟨fun i b hi => (s.hs.blk i b hi).later (Later.same c h hw) (fun _ => ⟨rfl, rfl⟩) (fun _ => by rw [hw]) hi, s.hs.inj, s.hs.nok, by rw [hw]; exact s.hs.okb⟩, s.own, s.okn, s.okm, s.ext⟩

theorem Sim.drew {z : Ini} {σ : St} {c : Cx} {a : Act} {w : World} (s : Sim z σ c a w) : Sim z σ c a w.drew :=
  ⟨s.m.same rfl rfl rfl rfl, TSim.later (w := w) (w' := w.drew) (Later.same (w := w) (w' := w.drew) c σ.h rfl) s.ts, s.df⟩

/-! ### What an operation does to the memory, the temporaries aside -/

/-- The operation yields what r says, and leaves the memory h'. -/
def YieldsR (P : Program) (z : Ini) (c : Cx) (h : List ABlk) (w : World) (r : AV) (h' : List ABlk) : Result Next → Prop
  | .ok (.value v) w' => ∃ c', Later c h w c' h' w' ∧ MSim z h' c' w' ∧ ARep c' h' w' r v
  | .ok .skip w' => ∃ c', Later c h w c' h' w' ∧ MSim z h' c' w' ∧ ARep c' h' w' r undef
  | .ok (.enter f args) w' => Calls P f args w' fun e w'' => match e with
      | .returned v => ∃ c', Later c h w c' h' w'' ∧ MSim z h' c' w'' ∧ ARep c' h' w'' r v
      | _ => False
  | _ => False
def Yields (P : Program) (z : Ini) (o : Oper) (ρ : Operand → Value) (c : Cx) (h : List ABlk) (w : World) (r : AV) (h' : List ABlk) : Prop :=
  YieldsR P z c h w r h' ((execOp ρ o).run P w)

theorem Yields.wp {P : Program} {z : Ini} {o : Oper} {a : Act} {c : Cx} {h : List ABlk} {w : World} {r : AV} {h' : List ABlk} {next : Act → World → Prop} {Q : Exit → Act → World → Prop}
    (y : Yields P z o a.eval c h w r h') (hn : ∀ c' v w', Later c h w c' h' w' → MSim z h' c' w' → ARep c' h' w' r v → next (a.put o.dst v) w') : o.wp P a w next Q := by
  unfold Oper.wp
  unfold Yields at y
  generalize (execOp a.eval o).run P w = q at y
  cases q with
  | halt x w' => exact y.elim
  | ok n w' =>
    cases n <;> simp only [YieldsR] at y <;> simp only [Oper.upon]
    case value v => obtain ⟨c', h1, h2, h3⟩ := y; exact hn c' v w' h1 h2 h3
    case skip => obtain ⟨c', h1, h2, h3⟩ := y; exact hn c' _ w' h1 h2 h3
    case enter f args =>
      refine y.mono fun e w'' he => ?_
      cases e with
      | returned v => obtain ⟨c', h1, h2, h3⟩ := he; exact hn c' v w'' h1 h2 h3
      | panicked _ => exact he.elim
      | outgrown => exact he.elim
end Go.Ab
namespace Go.Ab
open Go.RowKit
set_option linter.unusedVariables false
set_option linter.unusedSimpArgs false

/-- A list with one more, or another, element. -/
def setx : List ABlk → Nat → ABlk → List ABlk
  | [], 0, b => [b]
  | [], i + 1, b => .nb :: setx [] i b
  | _ :: l, 0, b => b :: l
  | x :: l, i + 1, b => x :: setx l i b

theorem setx_same (h : List ABlk) (i : Nat) (b : ABlk) : (setx h i b)[i]? = some b := by
  induction h generalizing i with
  | nil => induction i with
    | zero => rfl
    | succ i ih => simpa [setx] using ih
  | cons x l ih => cases i with
    | zero => rfl
    | succ i => simpa [setx] using ih i
theorem setx_other (h : List ABlk) (i j : Nat) (b : ABlk) (hj : j ≠ i) : (setx h i b)[j]? = h[j]? ∨ (h[j]? = none ∧ (setx h i b)[j]? = some .nb) := by
  induction h generalizing i j with
  | nil => induction i generalizing j with
    | zero => cases j with
      | zero => exact absurd rfl hj
      | succ j => exact .inl rfl
    | succ i ih => cases j with
      | zero => exact .inr ⟨rfl, rfl⟩
      | succ j =>
        rcases ih j (by omega) with h | h
        · exact .inl (by simpa [setx] using h)
        · exact .inr ⟨rfl, by simpa [setx] using h.2⟩
  | cons x l ih => cases i with
    | zero => cases j with
      | zero => exact absurd rfl hj
      | succ j => exact .inl rfl
    | succ i => cases j with
      | zero => exact .inl rfl
      | succ j => simpa [setx] using ih i j (by omega)
theorem setx_length (h : List ABlk) (i : Nat) (b : ABlk) : h.length ≤ (setx h i b).length := by
  induction h generalizing i with
  | nil => simp
  | cons x l ih => cases i with
    | zero => simp [setx]
    | succ i => simp [setx]; exact ih i
/-- What another place held, where it was there. -/
theorem setx_some {h : List ABlk} {i j : Nat} {b x : ABlk} (hj : j ≠ i) (hx : h[j]? = some x) : (setx h i b)[j]? = some x := by
  rcases setx_other h i j b hj with h' | h'
  · rw [h', hx]
  · rw [hx] at h'; cases h'.1
theorem setx_get {h : List ABlk} {i j : Nat} {b x : ABlk} (hx : (setx h i b)[j]? = some x) : (j = i ∧ x = b) ∨ (j ≠ i ∧ (h[j]? = some x ∨ x = .nb)) := by
  by_cases hj : j = i
  · subst hj; rw [setx_same] at hx; injection hx with hx; exact .inl ⟨rfl, hx.symm⟩
  · rcases setx_other h i j b hj with h' | h'
    · rw [h'] at hx; exact .inr ⟨hj, .inl hx⟩
    · rw [h'.2] at hx; injection hx with hx; exact .inr ⟨hj, .inr hx.symm⟩

theorem setx_at (h : List ABlk) (i k : Nat) (b : ABlk) : (setx h i b)[k]? = if k = i then some b else if h.length ≤ k ∧ k < i then some .nb else h[k]? := by
  induction h generalizing i k with
  | nil => induction i generalizing k with
    | zero => cases k with
      | zero => rfl
      | succ k => simp [setx]
    | succ i ih => cases k with
      | zero => simp [setx]
      | succ k => simpa [setx] using ih k
  | cons x l ih => cases i with
    | zero => cases k with
      | zero => rfl
      | succ k => simp [setx]
    | succ i => cases k with
      | zero => simp [setx]
      | succ k => simpa [setx] using ih i k
theorem setx_len (h : List ABlk) (i : Nat) (b : ABlk) : (setx h i b).length = max h.length (i + 1) := by
  induction h generalizing i with
  | nil => induction i with
    | zero => simp [setx]
    | succ i ih => simp [setx] at ih ⊢; omega
  | cons x l ih => cases i with
    | zero => simp [setx]
    | succ i => simp only [setx, List.length_cons, ih i]; omega
/-- The memory after several such. -/
def app (h : List ABlk) : List (Nat × ABlk) → List ABlk
  | [] => h
  | (i, b) :: d => app (setx h i b) d

def updN {α : Type} (f : Nat → α) (i : Nat) (x : α) : Nat → α := fun j => if j = i then x else f j
theorem updN_same {α : Type} (f : Nat → α) (i : Nat) (x : α) : updN f i x i = x := if_pos rfl
theorem updN_other {α : Type} (f : Nat → α) {i j : Nat} (x : α) (h : j ≠ i) : updN f i x j = f j := if_neg h

theorem lv_some {c : Cx} {h : List ABlk} {i : Nat} (l : lv c h i) : ∃ b, h[i]? = some b ∧ b ≠ .nb ∧ b ≠ .gone := by
  unfold lv at l
  cases hi : h[i]? with
  | none => simp [hi] at l
  | some b => cases b <;> simp [hi] at l <;> exact ⟨_, rfl, (by intro h; cases h), (by intro h; cases h)⟩

theorem HSim.lv_lt {c : Cx} {h : List ABlk} {w : World} (s : HSim c h w) {i : Nat} (l : lv c h i) : c.mu i < w.heap.size := by
  have hl := l
  unfold lv at l
  cases hi : h[i]? with
  | none => simp [hi] at l
  | some b =>
    have hb := s.blk i b hi
    have key : ∀ o, w.heap[c.mu i]? = some o → c.mu i < w.heap.size := fun o ho => (Array.getElem?_eq_some_iff.1 ho).1
    cases b <;> simp [hi] at l
    case box cs => obtain ⟨vs, ty, h1, _⟩ := hb; exact key _ h1
    case vec sz rows => obtain ⟨_, _, h3⟩ := hb; obtain ⟨vs, ty, h1, _⟩ := h3 l; exact key _ h1
    case mp k es =>
      cases k with
      | none => obtain ⟨ms, h1, _⟩ := hb; exact key _ h1
      | some mn => obtain ⟨m, n⟩ := mn; obtain ⟨g, _, h1⟩ := hb; exact key _ h1

/-- Whatever turned was the call's own, or is new. -/
theorem MSim.step {z : Ini} {h h' : List ABlk} {c c' : Cx} {w w' : World} (s : MSim z h c w) (h1 : w'.os = w.os) (h2 : w'.tape = w.tape) (h3 : w'.output = w.output)
    (h4 : w.heap.size ≤ w'.heap.size) (h5 : ∀ b, b < w.heap.size → (∀ i, lv c h i → c.mu i ≠ b) → w'.heap[b]? = w.heap[b]?) (h6 : HSim c' h' w')
    (h7 : ∀ i, lv c' h' i → (∃ j, lv c h j ∧ c'.mu i = c.mu j) ∨ w.heap.size ≤ c'.mu i) (h8 : ∀ b, c'.ok b → c.ok b ∨ (∃ j, lv c h j ∧ b = c.mu j) ∨ w.heap.size ≤ b) (h8' : ∀ b, c.ok b → c'.ok b)
    (h9 : z.n ≤ h'.length) (h10 : ∀ i, i < z.n → c'.mu i = c.mu i ∧ c'.vd i = c.vd i) : MSim z h' c' w' := by
  refine ⟨⟨h1.trans s.fr.os, h2.trans s.fr.tape, h3.trans s.fr.output, Nat.le_trans s.fr.size h4, fun b hb hO => ?_⟩, h6, fun i l => ?_, fun b hb => ?_, fun b hb => h8' b (s.okm b hb), h9, fun i hi => ?_⟩
  · rw [h5 b (Nat.lt_of_lt_of_le hb s.fr.size) (fun i l e => ?_), s.fr.block b hb hO]
    rcases s.own i l with h | h
    · rw [e] at h; exact hO h
    · omega
  · rcases h7 i l with ⟨j, lj, e⟩ | h
    · rw [e]; exact s.own j lj
    · exact .inr (Nat.le_trans s.fr.size h)
  · rcases h8 b hb with h | ⟨j, lj, e⟩ | h
    · exact s.okn b h
    · rw [e]; rcases s.own j lj with h | h
      · exact .inr (.inl h)
      · exact .inr (.inr h)
    · exact .inr (.inr (Nat.le_trans s.fr.size h))
  · exact ⟨(h10 i hi).1.trans (s.ext.2 i hi).1, (h10 i hi).2.trans (s.ext.2 i hi).2⟩

/-- Nothing of that name is there yet. -/
def unborn (h : List ABlk) (i : Nat) : Prop := h[i]? = none ∨ h[i]? = some .nb
theorem unborn_len (h : List ABlk) : unborn h h.length := .inl (List.getElem?_eq_none (Nat.le_refl _))

theorem lv_setx_other {c c' : Cx} {h : List ABlk} {i j : Nat} {b : ABlk} (hj : j ≠ i) (hv : c'.vd j = c.vd j) : lv c' (setx h i b) j ↔ lv c h j := by
  unfold lv
  rcases setx_other h i j b hj with h' | h'
  · rw [h', hv]
  · rw [h'.1, h'.2]

/-- A new block of the call's own, by whatever world that shows it. -/
theorem later_born {c c' : Cx} {h : List ABlk} {w w' : World} {i : Nat} {b : ABlk} (hu : unborn h i) (hok : ∀ x, c.ok x → c'.ok x) (hk : Keep c.ok w w')
    (hm : ∀ j, j ≠ i → c'.mu j = c.mu j ∧ c'.vd j = c.vd j) : Later c h w c' (setx h i b) w' := by
  refine ⟨hok, hk, fun j x hj hx => ?_⟩
  have hne : j ≠ i := by
    rintro rfl
    rcases hu with hu | hu <;> rw [hu] at hj
    · cases hj
    · injection hj with hj; exact hx hj.symm
  exact ⟨x, setx_some hne hj, hx, fun _ => hm j hne, fun cs e => ⟨cs, e⟩, fun sz rows e => ⟨rows, e, Nat.le_refl _⟩, fun k es e => ⟨es, e⟩⟩

theorem keep_alloc (S : Nat → Prop) (w : World) (o : Obj) (hS : ∀ b, S b → b < w.heap.size) : Keep S w (w.alloc o) := fun b hb => Below.heap_alloc w o b (hS b hb)

/-- One name more. -/
def Cx.born (c : Cx) (i g : Nat) (vd : Nat × Nat) : Cx := { c with mu := updN c.mu i g, vd := updN c.vd i vd }
theorem Cx.born_mu (c : Cx) (i g : Nat) (vd : Nat × Nat) : (c.born i g vd).mu i = g := updN_same _ _ _
theorem Cx.born_vd (c : Cx) (i g : Nat) (vd : Nat × Nat) : (c.born i g vd).vd i = vd := updN_same _ _ _
theorem Cx.born_other (c : Cx) (i g : Nat) (vd : Nat × Nat) (j : Nat) (h : j ≠ i) : (c.born i g vd).mu j = c.mu j ∧ (c.born i g vd).vd j = c.vd j := ⟨updN_other _ _ h, updN_other _ _ h⟩
theorem Later.born {z : Ini} {h : List ABlk} {c : Cx} {w : World} (s : MSim z h c w) (i : Nat) (hu : unborn h i) (b : ABlk) (g : Nat) (vd : Nat × Nat) (o : Obj) : Later c h w (c.born i g vd) (setx h i b) (w.alloc o) :=
  later_born (c' := c.born i g vd) (b := b) hu (fun _ h => h) (keep_alloc c.ok w o s.hs.okb) (c.born_other i g vd)

/-- A new block: 'w.alloc o' shows it. -/
theorem MSim.born {z : Ini} {h : List ABlk} {c : Cx} {w : World} (s : MSim z h c w) (i : Nat) (hu : unborn h i) (hn : z.n ≤ i) (b : ABlk) (vd : Nat × Nat) (o : Obj)
    (hb : BRep (c.born i w.heap.size vd) (setx h i b) (w.alloc o) i b) :
    Later c h w (c.born i w.heap.size vd) (setx h i b) (w.alloc o) ∧
    MSim z (setx h i b) (c.born i w.heap.size vd) (w.alloc o) := by
  have hk := keep_alloc c.ok w o s.hs.okb
  have hm : ∀ j, j ≠ i → (c.born i w.heap.size vd).mu j = c.mu j ∧ (c.born i w.heap.size vd).vd j = c.vd j := c.born_other i _ vd
  have L : Later c h w (c.born i w.heap.size vd) (setx h i b) (w.alloc o) := later_born hu (fun _ h => h) hk hm
  have lvo : ∀ j, j ≠ i → (lv (c.born i w.heap.size vd) (setx h i b) j ↔ lv c h j) := fun j hj => lv_setx_other hj (hm j hj).2
  refine ⟨L, s.step rfl rfl rfl (by simp) (fun x hx _ => Below.heap_alloc w o x hx) ⟨fun j x hj => ?_, fun j k lj lk e => ?_, fun j lj => ?_, fun x hx => ?_⟩ (fun j lj => ?_) (fun x hx => .inl hx) (fun x hx => hx) (Nat.le_trans s.ext.1 (setx_length _ _ _)) (fun j hj => hm j (by omega))⟩
  · rcases setx_get hj with ⟨rfl, rfl⟩ | ⟨hne, hj' | rfl⟩
    · exact hb
    · exact (s.hs.blk j x hj').later L (fun _ => hm j hne) (fun l => Below.heap_alloc w o _ (s.hs.lv_lt l)) hj'
    · trivial
  · by_cases h1 : j = i <;> by_cases h2 : k = i
    · rw [h1, h2]
    · subst h1
      have := s.hs.lv_lt ((lvo k h2).1 lk)
      rw [Cx.born_mu, (hm k h2).1] at e
      omega
    · subst h2
      have := s.hs.lv_lt ((lvo j h1).1 lj)
      rw [Cx.born_mu, (hm j h1).1] at e
      omega
    · rw [(hm j h1).1, (hm k h2).1] at e
      exact s.hs.inj j k ((lvo j h1).1 lj) ((lvo k h2).1 lk) e
  · by_cases h1 : j = i
    · subst h1
      rw [Cx.born_mu]
      intro hx
      have := s.hs.okb _ hx
      omega
    · rw [(hm j h1).1]
      exact s.hs.nok j ((lvo j h1).1 lj)
  · have := s.hs.okb x hx
    simp; omega
  · by_cases h1 : j = i
    · subst h1; right; rw [Cx.born_mu]; exact Nat.le_refl _
    · left; exact ⟨j, (lvo j h1).1 lj, (hm j h1).1⟩

/-- A block of the call's own turns (the same kind of block, a slice no shorter). -/
theorem MSim.turn {z : Ini} {h : List ABlk} {c : Cx} {w w' : World} (s : MSim z h c w) (i : Nat) (b b' : ABlk) (hi : h[i]? = some b) (hlv : lv c h i) (hlv' : lv c (setx h i b') i)
    (hk : (∀ cs', b' = .box cs' → ∃ cs, b = .box cs) ∧ (∀ sz rows', b' = .vec sz rows' → ∃ rows, b = .vec sz rows ∧ rows.length ≤ rows'.length) ∧ (∀ k es', b' = .mp k es' → ∃ es, b = .mp k es))
    (h1 : w'.os = w.os) (h2 : w'.tape = w.tape) (h3 : w'.output = w.output) (h4 : w.heap.size ≤ w'.heap.size) (h5 : ∀ x, x < w.heap.size → x ≠ c.mu i → w'.heap[x]? = w.heap[x]?)
    (hb : Later c h w c (setx h i b') w' → BRep c (setx h i b') w' i b') : Later c h w c (setx h i b') w' ∧ MSim z (setx h i b') c w' := by
  have hbn : b ≠ .nb := by obtain ⟨x, e, hx, _⟩ := lv_some hlv; rw [hi] at e; injection e with e; rw [e]; exact hx
  have hbn' : b' ≠ .nb := by obtain ⟨x, e, hx, _⟩ := lv_some hlv'; rw [setx_same] at e; injection e with e; rw [e]; exact hx
  have L : Later c h w c (setx h i b') w' := by
    refine ⟨fun _ h => h, fun x hx => h5 x (s.hs.okb x hx) (fun e => s.hs.nok i hlv (e ▸ hx)), fun j x hj hx => ?_⟩
    by_cases hne : j = i
    · subst hne
      rw [hi] at hj; injection hj with hj; subst hj
      exact ⟨b', setx_same _ _ _, hbn', fun _ => ⟨rfl, rfl⟩, hk⟩
    · exact ⟨x, setx_some hne hj, hx, fun _ => ⟨rfl, rfl⟩, fun cs e => ⟨cs, e⟩, fun sz rows e => ⟨rows, e, Nat.le_refl _⟩, fun k es e => ⟨es, e⟩⟩
  have lvo : ∀ j, lv c (setx h i b') j → lv c h j := fun j l => by
    by_cases hne : j = i
    · subst hne; exact hlv
    · exact (lv_setx_other hne rfl).1 l
  refine ⟨L, s.step h1 h2 h3 h4 (fun x hx hn => h5 x hx (fun e => hn i hlv e.symm)) ⟨fun j x hj => ?_, fun j k lj lk e => s.hs.inj j k (lvo j lj) (lvo k lk) e, fun j lj => s.hs.nok j (lvo j lj), fun x hx => Nat.lt_of_lt_of_le (s.hs.okb x hx) h4⟩
    (fun j lj => .inl ⟨j, lvo j lj, rfl⟩) (fun x hx => .inl hx) (fun x hx => hx) (Nat.le_trans s.ext.1 (setx_length _ _ _)) (fun j hj => ⟨rfl, rfl⟩)⟩
  rcases setx_get hj with ⟨rfl, rfl⟩ | ⟨hne, hj' | rfl⟩
  · exact hb L
  · exact (s.hs.blk j x hj').later L (fun _ => ⟨rfl, rfl⟩) (fun l => h5 _ (s.hs.lv_lt l) (fun e => hne (s.hs.inj j i l hlv e))) hj'
  · trivial

/-- A block of the call's own is given up; S says which of the machine's blocks nobody is to change from now on. -/
theorem MSim.drop {z : Ini} {h : List ABlk} {c : Cx} {w : World} (s : MSim z h c w) (i : Nat) (b : ABlk) (hi : h[i]? = some b) (hb : b ≠ .nb) (S : Nat → Prop) (hS : ∀ x, S x → lv c h i ∧ x = c.mu i) :
    Later c h w { c with ok := fun x => c.ok x ∨ S x } (setx h i .gone) w ∧ MSim z (setx h i .gone) { c with ok := fun x => c.ok x ∨ S x } w := by
  have L : Later c h w { c with ok := fun x => c.ok x ∨ S x } (setx h i .gone) w := by
    refine ⟨fun _ h => .inl h, fun _ _ => rfl, fun j x hj hx => ?_⟩
    by_cases hne : j = i
    · subst hne
      exact ⟨.gone, setx_same _ _ _, (by intro h; cases h), fun _ => ⟨rfl, rfl⟩, (fun cs e => by cases e), (fun sz rows e => by cases e), (fun k es e => by cases e)⟩
    · exact ⟨x, setx_some hne hj, hx, fun _ => ⟨rfl, rfl⟩, fun cs e => ⟨cs, e⟩, fun sz rows e => ⟨rows, e, Nat.le_refl _⟩, fun k es e => ⟨es, e⟩⟩
  have lvi : ¬ lv { c with ok := fun x => c.ok x ∨ S x } (setx h i .gone) i := by simp [lv, setx_same]
  have lvo : ∀ j, lv { c with ok := fun x => c.ok x ∨ S x } (setx h i .gone) j → j ≠ i ∧ lv c h j := fun j l => by
    by_cases hne : j = i
    · subst hne; exact (lvi l).elim
    · exact ⟨hne, (lv_setx_other (c := c) (c' := { c with ok := fun x => c.ok x ∨ S x }) hne rfl).1 l⟩
  refine ⟨L, s.step rfl rfl rfl (Nat.le_refl _) (fun _ _ _ => rfl) ⟨fun j x hj => ?_, fun j k lj lk e => s.hs.inj j k (lvo j lj).2 (lvo k lk).2 e, fun j lj hx => ?_, fun x hx => ?_⟩
    (fun j lj => .inl ⟨j, (lvo j lj).2, rfl⟩) (fun x hx => ?_) (fun x hx => .inl hx) (Nat.le_trans s.ext.1 (setx_length _ _ _)) (fun j hj => ⟨rfl, rfl⟩)⟩
  · rcases setx_get hj with ⟨rfl, rfl⟩ | ⟨hne, hj' | rfl⟩
    · trivial
    · exact (s.hs.blk j x hj').later L (fun _ => ⟨rfl, rfl⟩) (fun l => rfl) hj'
    · trivial
  · rcases hx with hx | hx
    · exact s.hs.nok j (lvo j lj).2 hx
    · obtain ⟨l, e⟩ := hS _ hx
      exact (lvo j lj).1 (s.hs.inj j i (lvo j lj).2 l e)
  · rcases hx with hx | hx
    · exact s.hs.okb x hx
    · obtain ⟨l, e⟩ := hS _ hx; rw [e]; exact s.hs.lv_lt l
  · rcases hx with hx | hx
    · exact .inl hx
    · obtain ⟨l, e⟩ := hS _ hx; exact .inr (.inl ⟨i, l, e⟩)

/-- A callee that touched nothing of what stood; what it made nobody changes. -/
theorem MSim.beyond {z : Ini} {h : List ABlk} {c : Cx} {w w' : World} (s : MSim z h c w) (hb : Below w.heap.size w w') (S : Nat → Prop) (hS : ∀ x, S x → w.heap.size ≤ x ∧ x < w'.heap.size) :
    Later c h w { c with ok := fun x => c.ok x ∨ S x } h w' ∧ MSim z h { c with ok := fun x => c.ok x ∨ S x } w' := by
  have L : Later c h w { c with ok := fun x => c.ok x ∨ S x } h w' :=
    ⟨fun _ h => .inl h, fun x hx => hb.block x (s.hs.okb x hx), fun j x hj hx => ⟨x, hj, hx, fun _ => ⟨rfl, rfl⟩, fun cs e => ⟨cs, e⟩, fun sz rows e => ⟨rows, e, Nat.le_refl _⟩, fun k es e => ⟨es, e⟩⟩⟩
  have lvo : ∀ j, lv { c with ok := fun x => c.ok x ∨ S x } h j → lv c h j := fun j l => l
  refine ⟨L, s.step hb.os hb.tape hb.output hb.size (fun x hx _ => hb.block x hx) ⟨fun j x hj => (s.hs.blk j x hj).later L (fun _ => ⟨rfl, rfl⟩) (fun l => hb.block _ (s.hs.lv_lt l)) hj, fun j k lj lk e => s.hs.inj j k lj lk e, fun j lj hx => ?_, fun x hx => ?_⟩
    (fun j lj => .inl ⟨j, lj, rfl⟩) (fun x hx => ?_) (fun x hx => .inl hx) s.ext.1 (fun j hj => ⟨rfl, rfl⟩)⟩
  · rcases hx with hx | hx
    · exact s.hs.nok j lj hx
    · have := s.hs.lv_lt lj; have := (hS _ hx).1; simp only at this; omega
  · rcases hx with hx | hx
    · exact Nat.lt_of_lt_of_le (s.hs.okb x hx) hb.size
    · exact (hS _ hx).2
  · rcases hx with hx | hx
    · exact .inl hx
    · exact .inr (.inr (hS _ hx).1)
end Go.Ab
namespace Go.Ab
open Go.RowKit
set_option linter.unusedVariables false
set_option linter.unusedSimpArgs false

/-! ### What is told of types -/
inductive TK where
  | int (k : IntKind) | bool | str
  | slice (e sz bytes : Nat)
  | arr (n e sz : Nat) (agg : Bool)
  | strct (fs : List (Nat × Nat × Nat × Bool))
  | other

def szOf (P : Program) (t : TypeId) : Nat := ((P.info? t).map (·.size)).getD 0
def byOf (P : Program) (t : TypeId) : Nat := ((P.info? t).map (·.bytes)).getD 0
/-- 2: a struct or an array; 1: another type; 0: none. -/
def agOf (P : Program) (t : TypeId) : Nat := match P.underlying t with | some (.struct _) | some (.array _ _) => 2 | some _ => 1 | none => 0
def tk (P : Program) (t : TypeId) : TK := match P.underlying t with
  | some (.int k) => .int k
  | some .bool => .bool
  | some .string => .str
  | some (.slice e) => .slice e (szOf P e) (byOf P e)
  | some (.array n e) => .arr n e (szOf P e) (agOf P e == 2)
  | some (.struct fs) => .strct (fs.toList.map fun f => (f.type, f.offset, szOf P f.type, agOf P f.type == 2))
  | _ => .other

def constV : Value → Option AV
  | .int k n => some (.pv (.int k n))
  | .bool b => some (.pv (.bool b))
  | .string s => some (.pv (.str s))
  | .slice none 0 0 => some (.pv (.lst true 0 []))
  | .pointer none => some (.pv .nilPtr)
  | .map none => some (.pv .nilMap)
  | .nilFunc => some (.pv .nilFn)
  | .nilIface => some (.pv .nilIfc)
  | _ => none
def constVs : List Value → Option (List AV)
  | [] => some []
  | v :: l => match constV v, constVs l with | some x, some xs => some (x :: xs) | _, _ => none
/-- A type's zero value, cell by cell. -/
def zro (P : Program) (t : TypeId) : Option (List AV) := ((P.info? t).bind (·.zero)).bind fun v => constVs v.cells.toList

theorem rep_nil (ok : Nat → Prop) (w : World) (sz : Nat) : Rep ok w (.lst true sz []) (.slice none 0 0) :=
  .lst true sz [] none 0 (fun _ _ => undef) (fun j row h => by simp at h) (Nat.le_refl _) (fun _ => rfl) (fun h => by simp at h) (fun ad e => by cases e) (fun j row k p h => by simp at h)

theorem constV_rep {v : Value} {x : AV} (h : constV v = some x) (c : Cx) (hh : List ABlk) (w : World) : ARep c hh w x v ∧ v.oneCell' = true := by
  unfold constV at h
  split at h <;> first | (injection h with h; subst h; exact ⟨.pv _ _ (by first | exact rep_nil _ _ _ | constructor), rfl⟩) | cases h
theorem constVs_rep : ∀ {vs : List Value} {xs : List AV}, constVs vs = some xs → ∀ (c : Cx) (hh : List ABlk) (w : World),
    vs.length = xs.length ∧ ∀ (k : Nat) (x : AV), xs[k]? = some x → ∃ v, vs[k]? = some v ∧ v.oneCell' = true ∧ ARep c hh w x v
  | [], xs, h, c, hh, w => by simp [constVs] at h; subst h; exact ⟨rfl, fun k x hk => by simp at hk⟩
  | v :: vs, xs, h, c, hh, w => by
    simp only [constVs] at h
    split at h
    · rename_i x ys h1 h2
      injection h with h; subst h
      obtain ⟨h3, h4⟩ := constVs_rep h2 c hh w
      refine ⟨by simp [h3], fun k y hk => ?_⟩
      cases k with
      | zero => simp at hk; subst hk; obtain ⟨g1, g2⟩ := constV_rep h1 c hh w; exact ⟨v, rfl, g2, g1⟩
      | succ k => exact h4 k y (by simpa using hk)
    · cases h

theorem zro_run {P : Program} {t : TypeId} {xs : List AV} (h : zro P t = some xs) (w : World) : ∃ zv, (zeroValue t).run P w = .ok zv w ∧ constVs zv.cells.toList = some xs := by
  unfold zro at h
  cases hi : P.info? t with
  | none => simp [hi] at h
  | some i =>
    cases hz : i.zero with
    | none => simp [hi, hz] at h
    | some zv =>
      simp [hi, hz] at h
      exact ⟨zv, by simp [zeroValue, typeInfo, hi, hz], by simpa using h⟩
theorem szOf_run {P : Program} {t : TypeId} {n : Nat} (h : szOf P t = n) (hn : 0 < n) (w : World) : (sizeOf t).run P w = .ok n w := by
  unfold szOf at h
  cases hi : P.info? t with
  | none => simp [hi] at h; omega
  | some i => simp [hi] at h; subst h; simp [sizeOf, typeInfo, hi]
theorem agOf_run {P : Program} {t : TypeId} {n : Nat} (h : agOf P t = n) (hn : 0 < n) (w : World) : (isAgg t).run P w = .ok (n == 2) w := by
  unfold agOf at h
  cases hu : P.underlying t with
  | none => simp [hu] at h; omega
  | some d =>
    unfold isAgg
    rw [Sem.run_bind, run_underlying hu w]
    simp only [hu] at h
    cases d <;> simp at h <;> subst h <;> simp

/-! ### A value's cells -/
def acells : AV → Option (List AV)
  | .agg xs => some xs
  | .pv (.agg ps) => some (ps.map .pv)
  | .pv (.tup _) => none
  | .tup _ => none
  | .any => none
  | x => some [x]

theorem cells_one {v : Value} (h : v.oneCell' = true) : v.cells = #[v] := by cases v <;> first | rfl | simp [Value.oneCell'] at h

theorem ARep.cells {c : Cx} {h : List ABlk} {w : World} {x : AV} {v : Value} {xs : List AV} (r : ARep c h w x v) (hx : acells x = some xs) :
    v.cells.size = xs.length ∧ ∀ (k : Nat) (x : AV), xs[k]? = some x → ∃ u, v.cells[k]? = some u ∧ u.oneCell' = true ∧ ARep c h w x u := by
  have one : ∀ (u : Value) (y : AV), u.oneCell' = true → u.cells = #[u] → ARep c h w y u → [y] = xs → u.cells.size = xs.length ∧ ∀ (k : Nat) (x : AV), xs[k]? = some x → ∃ q, u.cells[k]? = some q ∧ q.oneCell' = true ∧ ARep c h w x q := by
    rintro u y h1 h2 h3 rfl
    rw [h2]
    refine ⟨rfl, fun k x hk => ?_⟩
    cases k with
    | zero => simp at hk; subst hk; exact ⟨u, rfl, h1, h3⟩
    | succ k => simp at hk
  cases r with
  | pv p _ hr =>
    cases hr with
    | agg ps vs hl ho hp =>
      simp [acells] at hx; subst hx
      refine ⟨by simp [Value.cells, hl], fun k x hk => ?_⟩
      simp only [List.getElem?_map] at hk
      cases hk2 : ps[k]? with
      | none => simp [hk2] at hk
      | some p =>
        simp [hk2] at hk; subst hk
        have hlt : k < vs.length := by rw [← hl]; exact (List.getElem?_eq_some_iff.1 hk2).1
        exact ⟨vs[k], by simp [Value.cells, hlt], ho _ (List.getElem_mem hlt), .pv _ _ (hp k p _ hk2 (List.getElem?_eq_getElem hlt))⟩
    | tup => simp [acells] at hx
    | int | bool | str | nilIfc | nilFn | nilPtr | nilMap => exact one _ _ rfl rfl (.pv _ _ (by constructor)) (by simpa [acells] using hx)
    | lst full sz rows A cc us h1 h2 h3 h4 h5 h6 => exact one _ _ rfl rfl (.pv _ _ (.lst full sz rows A cc us h1 h2 h3 h4 h5 h6)) (by simpa [acells] using hx)
    | ifc t p v hr => exact one _ _ rfl rfl (.pv _ _ (.ifc t p v hr)) (by simpa [acells] using hx)
  | agg ys vs hl ho hr =>
    simp [acells] at hx; subst hx
    refine ⟨by simp [Value.cells, hl], fun k x hk => ?_⟩
    have hlt : k < vs.length := by rw [← hl]; exact (List.getElem?_eq_some_iff.1 hk).1
    exact ⟨vs[k], by simp [Value.cells, hlt], ho _ (List.getElem_mem hlt), hr k x _ hk (List.getElem?_eq_getElem hlt)⟩
  | tup => simp [acells] at hx
  | any => simp [acells] at hx
  | el row off a us hc => exact one _ _ rfl rfl (.el row off a us hc) (by simpa [acells] using hx)
  | fn f ys zs us vs h1 h2 h3 h4 => exact one _ _ rfl rfl (.fn f ys zs us vs h1 h2 h3 h4) (by simpa [acells] using hx)
  | ifc t y v hr => exact one _ _ rfl rfl (.ifc t y v hr) (by simpa [acells] using hx)
  | ptr i off v b ho hi hb hv => exact one _ _ ho (cells_one ho) (.ptr i off v b ho hi hb hv) (by simpa [acells] using hx)
  | vs i off n v b ho hi hb hv => exact one _ _ ho (cells_one ho) (.vs i off n v b ho hi hb hv) (by simpa [acells] using hx)
  | ve i r off v b ho hi hb hv => exact one _ _ ho (cells_one ho) (.ve i r off v b ho hi hb hv) (by simpa [acells] using hx)
  | sl i off n cap v b ho hi hb hv => exact one _ _ ho (cells_one ho) (.sl i off n cap v b ho hi hb hv) (by simpa [acells] using hx)
  | mp i v b ho hi hb hv => exact one _ _ ho (cells_one ho) (.mp i v b ho hi hb hv) (by simpa [acells] using hx)
end Go.Ab
namespace Go.Ab
open Go.RowKit
set_option linter.unusedVariables false
set_option linter.unusedSimpArgs false

/-! ### Pure values out of others -/
mutual
def pur : AV → Option PV
  | .pv p => some p
  | .agg xs => (purL xs).map .agg
  | .tup xs => (purL xs).map .tup
  | .ifc t x => (pur x).map (.ifc t)
  | _ => none
def purL : List AV → Option (List PV)
  | [] => some []
  | x :: xs => match pur x, purL xs with
    | some p, some ps => some (p :: ps)
    | _, _ => none
end

theorem purL_get : ∀ {xs : List AV} {ps : List PV}, purL xs = some ps → xs.length = ps.length ∧ ∀ (k : Nat) (p : PV), ps[k]? = some p → ∃ x, xs[k]? = some x ∧ pur x = some p
  | [], ps, h => by simp [purL] at h; subst h; exact ⟨rfl, fun k p hk => by simp at hk⟩
  | x :: xs, ps, h => by
    rw [purL] at h
    split at h
    · rename_i p qs h1 h2
      injection h with h; subst h
      obtain ⟨h3, h4⟩ := purL_get h2
      refine ⟨by simp [h3], fun k q hk => ?_⟩
      cases k with
      | zero => simp at hk; subst hk; exact ⟨x, rfl, h1⟩
      | succ k => exact h4 k q (by simpa using hk)
    · cases h

theorem ARep.pur {c : Cx} {h : List ABlk} {w : World} {x : AV} {v : Value} (r : ARep c h w x v) : ∀ {p : PV}, Ab.pur x = some p → Rep c.ok w p v := by
  induction r with
  | pv p v hr => intro q hq; simp [Ab.pur] at hq; subst hq; exact hr
  | agg xs vs hl ho hr ih =>
    intro q hq
    simp only [Ab.pur, Option.map_eq_some_iff] at hq
    obtain ⟨ps, hp, rfl⟩ := hq
    obtain ⟨h1, h2⟩ := purL_get hp
    refine .agg ps vs (h1.symm.trans hl) ho fun k p v hk hv => ?_
    obtain ⟨x, hx, hpx⟩ := h2 k p hk
    exact ih k x v hx hv hpx
  | tup xs vs hl hr ih =>
    intro q hq
    simp only [Ab.pur, Option.map_eq_some_iff] at hq
    obtain ⟨ps, hp, rfl⟩ := hq
    obtain ⟨h1, h2⟩ := purL_get hp
    refine .tup ps vs (h1.symm.trans hl) fun k p v hk hv => ?_
    obtain ⟨x, hx, hpx⟩ := h2 k p hk
    exact ih k x v hx hv hpx
  | ifc t x v hr ih =>
    intro q hq
    simp only [Ab.pur, Option.map_eq_some_iff] at hq
    obtain ⟨p, hp, rfl⟩ := hq
    exact .ifc t p v (ih hp)
  | ptr | el | vs | ve | sl | fn | mp | any => intro q hq; simp [Ab.pur] at hq

/-! ### A load -/
/-- Cells that stand one behind the other. -/
def loadC (ag size : Nat) (xs : List AV) (off : Nat) : Option AV :=
  if ag = 2 then (if off + size ≤ xs.length then some (.agg ((xs.drop off).take size)) else none) else if ag = 1 then xs[off]? else none
def loadA (ag size : Nat) (h : List ABlk) : AV → Option AV
  | .ptr i off => match h[i]? with | some (.box cs) => loadC ag size cs off | _ => none
  | .el row off => loadC ag size (row.map .pv) off
  | .ve i r off => match h[i]? with
    | some (.vec sz rows) => match rows[r]? with | some row => loadC ag size (row.map .pv) off | none => none
    | _ => none
  | _ => none

theorem loadC_run {P : Program} {t : TypeId} {c : Cx} {h : List ABlk} {w : World} {xs : List AV} {off : Nat} {a : Addr} {r : AV}
    (hx : ∀ (k : Nat) (x : AV), xs[k]? = some x → ∃ u, w.cell? (a.add k) = some u ∧ u.oneCell' = true ∧ ARep c h w x u) (hl : loadC (agOf P t) (szOf P t) xs off = some r) (hs : 0 < szOf P t) :
    ∃ u, (loadVar t (a.add off)).run P w = .ok u w ∧ ARep c h w r u := by
  unfold loadC at hl
  split at hl
  · rename_i hag
    split at hl
    · rename_i hle
      injection hl with hl; subst hl
      have hall : ∀ j, j < szOf P t → ∃ u, w.cell? ((a.add off).add j) = some u ∧ u.oneCell' = true ∧ ∀ x, xs[off + j]? = some x → ARep c h w x u := by
        intro j hj
        have hlt : off + j < xs.length := by omega
        obtain ⟨u, h1, h2, h3⟩ := hx (off + j) _ (List.getElem?_eq_getElem hlt)
        exact ⟨u, by rw [Addr.add_add]; exact h1, h2, fun x e => by rw [List.getElem?_eq_getElem hlt] at e; injection e with e; exact e ▸ h3⟩
      let us : List Value := (List.range (szOf P t)).map fun j => (w.cell? ((a.add off).add j)).getD undef
      have hus : ∀ j v, us[j]? = some v → j < szOf P t ∧ w.cell? ((a.add off).add j) = some v := by
        intro j v hv
        simp only [us, List.getElem?_map] at hv
        rcases Nat.lt_or_ge j (szOf P t) with hj | hj
        · obtain ⟨u, h1, _⟩ := hall j hj
          simp [List.getElem?_range hj, h1] at hv
          exact ⟨hj, by rw [h1, hv]⟩
        · simp [List.getElem?_eq_none (show (List.range (szOf P t)).length ≤ j by simpa using hj)] at hv
      have hlen : us.length = szOf P t := by simp [us]
      have hr := run_loadCells_list (P := P) w (a.add off) us (fun j v hv => (hus j v hv).2)
      rw [hlen] at hr
      refine ⟨.agg us.toArray, by simp [loadVar, Sem.run_bind, agOf_run hag (by omega), szOf_run rfl hs, hr], .agg _ us (by simp [hlen]; omega) (fun v hv => ?_) fun k x v hk hv => ?_⟩
      · obtain ⟨j, hj, e⟩ := List.getElem_of_mem hv
        obtain ⟨h1, h2⟩ := hus j v (by rw [List.getElem?_eq_getElem hj, e])
        obtain ⟨u, g1, g2, _⟩ := hall j h1
        rw [g1] at h2; injection h2 with h2; exact h2 ▸ g2
      · obtain ⟨h1, h2⟩ := hus k v hv
        obtain ⟨u, g1, g2, g3⟩ := hall k h1
        rw [g1] at h2; injection h2 with h2; subst h2
        refine g3 x ?_
        rw [List.getElem?_take_of_lt h1, List.getElem?_drop] at hk
        exact hk
    · cases hl
  · split at hl
    · rename_i hag
      obtain ⟨u, h1, h2, h3⟩ := hx off r hl
      exact ⟨u, by simp [loadVar, Sem.run_bind, agOf_run hag (by omega), h1], h3⟩
    · cases hl

theorem box_cells {z : Ini} {c : Cx} {h : List ABlk} {w : World} (s : MSim z h c w) {i : Nat} {cs : List AV} (hi : h[i]? = some (.box cs)) :
    ∀ (k : Nat) (x : AV), cs[k]? = some x → ∃ u, w.cell? ((⟨c.mu i, 0, none⟩ : Addr).add k) = some u ∧ u.oneCell' = true ∧ ARep c h w x u := by
  intro k x hk
  obtain ⟨vs, ty, h1, h2, h3⟩ := s.hs.blk i _ hi
  obtain ⟨v, hv, ho, hr⟩ := h3 k x hk
  exact ⟨v, by rw [Addr.add_plain, Nat.zero_add]; simp [World.cell?, h1, hv], ho, hr⟩
theorem vec_cells {z : Ini} {c : Cx} {h : List ABlk} {w : World} (s : MSim z h c w) {i sz : Nat} {rows : List (List PV)} (hi : h[i]? = some (.vec sz rows)) {r : Nat} {row : List PV} (hr : rows[r]? = some row) :
    ∀ (k : Nat) (x : AV), (row.map AV.pv)[k]? = some x → ∃ u, w.cell? ((⟨c.mu i, (c.vd i).1 + r * sz, none⟩ : Addr).add k) = some u ∧ u.oneCell' = true ∧ ARep c h w x u := by
  intro k x hk
  obtain ⟨h1, h2, h3⟩ := s.hs.blk i _ hi
  have hlt : r < rows.length := (List.getElem?_eq_some_iff.1 hr).1
  obtain ⟨vs, ty, h4, h5, h6⟩ := h3 (by omega)
  simp only [List.getElem?_map, Option.map_eq_some_iff] at hk
  obtain ⟨p, hp, rfl⟩ := hk
  obtain ⟨v, hv, ho, hrep⟩ := h6 r row k p hr hp
  refine ⟨v, ?_, ho, .pv _ _ hrep⟩
  rw [Addr.add_plain]
  simp only [World.cell?, h4]
  simpa [Nat.add_assoc] using hv

theorem loadA_run {P : Program} {t : TypeId} {z : Ini} {c : Cx} {h : List ABlk} {w : World} (s : MSim z h c w) {x : AV} {v : Value} {r : AV} (hx : ARep c h w x v) (hl : loadA (agOf P t) (szOf P t) h x = some r) (hs : 0 < szOf P t) :
    ∃ u, (Instr.loadAt t v).run P w = .ok u w ∧ ARep c h w r u := by
  cases hx with
  | ptr i off v b ho hi hb hv =>
    simp only [loadA, hi] at hl
    cases b with
    | box cs =>
      obtain ⟨u, h1, h2⟩ := loadC_run (P := P) (t := t) (box_cells s hi) hl hs
      rw [Addr.add_plain, Nat.zero_add] at h1
      exact ⟨u, by simp [Instr.loadAt, Instr.sureAddr, hv cs rfl, h1], h2⟩
    | nb | gone | vec | mp => simp at hl
  | el row off a us hc =>
    obtain ⟨u, h1, h2⟩ := loadC_run (P := P) (t := t) (c := c) (h := h) (xs := row.map .pv) (a := a) (fun k x hk => by
      simp only [List.getElem?_map, Option.map_eq_some_iff] at hk
      obtain ⟨p, hp, rfl⟩ := hk
      obtain ⟨g1, g2, g3, g4⟩ := hc k p hp
      exact ⟨us k, g2, g3, .pv _ _ g4⟩) hl hs
    exact ⟨u, by simp [Instr.loadAt, Instr.sureAddr, h1], h2⟩
  | ve i r off v b ho hi hb hv =>
    simp only [loadA, hi] at hl
    cases b with
    | vec sz rows =>
      simp only at hl
      cases hr : rows[r]? with
      | none => simp [hr] at hl
      | some row =>
        simp only [hr] at hl
        obtain ⟨u, h1, h2⟩ := loadC_run (P := P) (t := t) (vec_cells s hi hr) hl hs
        rw [Addr.add_plain] at h1
        exact ⟨u, by simp [Instr.loadAt, Instr.sureAddr, hv sz rows rfl, h1], h2⟩
    | nb | gone | box | mp => simp at hl
  | pv | vs | sl | agg | tup | fn | ifc | mp | any => simp [loadA] at hl

/-! ### A store -/
/-- Cells put in the place of others. -/
def splice {α : Type} (xs : List α) (off : Nat) : List α → List α
  | [y] => xs.set off y
  | ys => xs.take off ++ ys ++ xs.drop (off + ys.length)
theorem splice_get {α : Type} (xs ys : List α) (off : Nat) (hl : off + ys.length ≤ xs.length) :
    (splice xs off ys).length = xs.length ∧ ∀ k, (splice xs off ys)[k]? = if off ≤ k ∧ k < off + ys.length then ys[k - off]? else xs[k]? := by
  have gen : (xs.take off ++ ys ++ xs.drop (off + ys.length)).length = xs.length ∧ ∀ k, (xs.take off ++ ys ++ xs.drop (off + ys.length))[k]? = if off ≤ k ∧ k < off + ys.length then ys[k - off]? else xs[k]? := by
    refine ⟨by simp; omega, fun k => ?_⟩
    by_cases h1 : k < off
    · rw [if_neg (by omega), List.append_assoc, List.getElem?_append_left (by simp; omega), List.getElem?_take_of_lt h1]
    · by_cases h2 : k < off + ys.length
      · rw [if_pos (by omega), List.getElem?_append_left (by simp; omega), List.getElem?_append_right (by simp; omega)]
        congr 1
        simp; omega
      · rw [if_neg (by omega), List.getElem?_append_right (by simp; omega), List.getElem?_drop]
        congr 1
        simp; omega
  unfold splice
  split
  · rename_i y
    refine ⟨by simp, fun k => ?_⟩
    simp only [List.length_singleton] at hl ⊢
    rw [List.getElem?_set]
    by_cases hk : off = k
    · subst hk; rw [if_pos rfl, if_pos (by omega), if_pos (by omega)]; simp
    · rw [if_neg hk, if_neg (by omega)]
  · exact gen

def storeA (size : Nat) (h : List ABlk) (x : AV) : AV → Option (List (Nat × ABlk))
  | .ptr i off => match h[i]?, acells x with
    | some (.box cs), some ys => if ys.length = size ∧ off + size ≤ cs.length then some [(i, .box (splice cs off ys))] else none
    | _, _ => none
  | .ve i r off => match h[i]?, (acells x).bind purL with
    | some (.vec sz rows), some ys => match rows[r]? with
      | some row => if ys.length = size ∧ off + size ≤ row.length then some [(i, .vec sz (rows.set r (splice row off ys)))] else none
      | none => none
    | _, _ => none
  | _ => none

theorem run_storeVar_into {P : Program} {t : TypeId} {w : World} {g o : Nat} {cur : Array Value} {ty : TypeId} {v : Value} (hg : w.heap[g]? = some (.cells cur ty (0, 0))) (hs : szOf P t = v.cells.size) (h0 : 0 < szOf P t)
    (hl : o + v.cells.size ≤ cur.size) (ho : ∀ u ∈ v.cells.toList, u.oneCell' = true) :
    (storeVar t ⟨g, o, none⟩ v).run P w = .ok () (w.setRow g (cur.toList.take o ++ v.cells.toList ++ cur.toList.drop (o + v.cells.size)).toArray) := by
  have h := run_storeCells_at (P := P) g o ty v.cells.toList 0 cur w hg (by simpa using hl) ho
  simp only [Nat.add_zero, Array.length_toList] at h
  simp [storeVar, Sem.run_bind, szOf_run hs (by omega), h]
end Go.Ab
namespace Go.Ab
open Go.RowKit
set_option linter.unusedVariables false
set_option linter.unusedSimpArgs false

theorem arr_splice_get {cur : Array Value} {o : Nat} {vs : List Value} (hl : o + vs.length ≤ cur.size) (k : Nat) :
    (cur.toList.take o ++ vs ++ cur.toList.drop (o + vs.length)).toArray[k]? = (if o ≤ k ∧ k < o + vs.length then vs[k - o]? else cur[k]?) ∧ (cur.toList.take o ++ vs ++ cur.toList.drop (o + vs.length)).toArray.size = cur.size := by
  refine ⟨?_, by simp; omega⟩
  rw [List.getElem?_toArray]
  by_cases h1 : k < o
  · rw [if_neg (by omega), List.append_assoc, List.getElem?_append_left (by simp; omega), List.getElem?_take_of_lt h1, Array.getElem?_toList]
  · by_cases h2 : k < o + vs.length
    · rw [if_pos (by omega), List.getElem?_append_left (by simp; omega), List.getElem?_append_right (by simp; omega)]
      congr 1
      simp; omega
    · rw [if_neg (by omega), List.getElem?_append_right (by simp; omega), List.getElem?_drop, Array.getElem?_toList]
      congr 1
      simp; omega

theorem storeA_run {P : Program} {t : TypeId} {z : Ini} {c : Cx} {h : List ABlk} {w : World} (s : MSim z h c w) {x y : AV} {va v : Value} {d : List (Nat × ABlk)} (hx : ARep c h w x va) (hy : ARep c h w y v)
    (hd : storeA (szOf P t) h y x = some d) (hs : 0 < szOf P t) :
    ∃ w', (Instr.storeAt t va v).run P w = .ok () w' ∧ Later c h w c (app h d) w' ∧ MSim z (app h d) c w' := by
  cases hx with
  | ptr i off va b ho hi hb hv =>
    simp only [storeA, hi] at hd
    cases b with
    | box cs =>
      cases hc : acells y with
      | none => simp [hc] at hd
      | some ys =>
        simp only [hc] at hd
        split at hd
        · rename_i hsz
          injection hd with hd; subst hd
          obtain ⟨g1, g2⟩ := hy.cells hc
          obtain ⟨vs, ty, h1, h2, h3⟩ := s.hs.blk i _ hi
          have hone : ∀ u ∈ v.cells.toList, u.oneCell' = true := by
            intro u hu
            obtain ⟨k, hk, e⟩ := List.getElem_of_mem hu
            have hk' : k < ys.length := by rw [← g1]; simpa using hk
            obtain ⟨q, q1, q2, _⟩ := g2 k _ (List.getElem?_eq_getElem hk')
            rw [← Array.getElem?_toList, List.getElem?_eq_getElem hk] at q1
            injection q1 with q1
            rw [← e, q1]; exact q2
          have hl : off + v.cells.size ≤ vs.size := by rw [g1, h2]; omega
          have hrun := run_storeVar_into (P := P) (t := t) (v := v) (o := off) h1 (by rw [g1]; exact hsz.1.symm) hs hl hone
          have hlen : v.cells.toList.length = ys.length := by simpa using g1
          have hl' : off + v.cells.toList.length ≤ vs.size := by simpa using hl
          have hsg := splice_get cs ys off (by omega)
          refine ⟨_, (by simp only [Instr.storeAt, Instr.sureAddr, hv cs rfl, Sem.run_bind, Sem.run_pure, Result.andThen_ok]; exact hrun), ?_⟩
          simp only [app]
          refine s.turn i (.box cs) _ hi (by simp [lv, hi]) (by simp [lv, setx_same]) ⟨fun cs' _ => ⟨cs, rfl⟩, (fun sz rows e => by cases e), (fun k es e => by cases e)⟩ rfl rfl rfl (by simp [setRow_size]) (fun b _ hne => setRow_other _ _ _ _ hne) fun L => ?_
          refine ⟨_, ty, setRow_heap _ _ _ _ _ _ h1, ?_, fun k x hk => ?_⟩
          · have := (arr_splice_get hl' 0).2
            simp only [Array.length_toList] at this
            rw [this, h2, hsg.1]
          · have hag := (arr_splice_get hl' k).1
            simp only [Array.length_toList] at hag
            rw [hag]
            rw [hsg.2 k] at hk
            by_cases hr : off ≤ k ∧ k < off + ys.length
            · rw [if_pos hr] at hk
              rw [if_pos (by omega)]
              obtain ⟨q, q1, q2, q3⟩ := g2 (k - off) x hk
              exact ⟨q, by rw [Array.getElem?_toList]; exact q1, q2, q3.later L⟩
            · rw [if_neg hr] at hk
              rw [if_neg (by omega)]
              obtain ⟨q, q1, q2, q3⟩ := h3 k x hk
              exact ⟨q, q1, q2, q3.later L⟩
        · cases hd
    | nb | gone | vec | mp => simp at hd
  | ve i r off va b ho hi hb hv =>
    simp only [storeA, hi] at hd
    cases b with
    | vec sz rows =>
      cases hc : (acells y).bind purL with
      | none => simp [hc] at hd
      | some ps =>
        simp only [hc] at hd
        obtain ⟨ys, hc1, hc2⟩ := Option.bind_eq_some_iff.1 hc
        cases hrow : rows[r]? with
        | none => simp [hrow] at hd
        | some row =>
          simp only [hrow] at hd
          split at hd
          · rename_i hsz
            injection hd with hd; subst hd
            obtain ⟨g1, g2⟩ := hy.cells hc1
            obtain ⟨p1, p2⟩ := purL_get hc2
            obtain ⟨b1, b2, b3⟩ := s.hs.blk i _ hi
            have hlt : r < rows.length := (List.getElem?_eq_some_iff.1 hrow).1
            obtain ⟨vs, ty, h1, h2, h3⟩ := b3 (by omega)
            have hrl := b2 r row hrow
            have hone : ∀ u ∈ v.cells.toList, u.oneCell' = true := by
              intro u hu
              obtain ⟨k, hk, e⟩ := List.getElem_of_mem hu
              have hk' : k < ys.length := by rw [← g1]; simpa using hk
              obtain ⟨q, q1, q2, _⟩ := g2 k _ (List.getElem?_eq_getElem hk')
              rw [← Array.getElem?_toList, List.getElem?_eq_getElem hk] at q1
              injection q1 with q1
              rw [← e, q1]; exact q2
            have hmul : (r + 1) * sz ≤ (c.vd i).2 * sz := Nat.mul_le_mul_right _ (by omega)
            have hmul' : (r + 1) * sz = r * sz + sz := Nat.succ_mul r sz
            have hl : (c.vd i).1 + r * sz + off + v.cells.size ≤ vs.size := by rw [g1, h2]; omega
            have hrun := run_storeVar_into (P := P) (t := t) (v := v) (o := (c.vd i).1 + r * sz + off) h1 (by rw [g1, p1]; exact hsz.1.symm) hs hl hone
            have hl' : (c.vd i).1 + r * sz + off + v.cells.toList.length ≤ vs.size := by simpa using hl
            have hsg := splice_get row ps off (by omega)
            refine ⟨_, (by simp only [Instr.storeAt, Instr.sureAddr, hv sz rows rfl, Sem.run_bind, Sem.run_pure, Result.andThen_ok]; exact hrun), ?_⟩
            simp only [app]
            refine s.turn i (.vec sz rows) _ hi (by simp [lv, hi]; omega) (by simp [lv, setx_same]; omega) ⟨(fun cs e => by cases e), (fun sz' rows' e => by injection e with e1 e2; subst e1; subst e2; exact ⟨rows, rfl, by simp⟩), (fun k es e => by cases e)⟩ rfl rfl rfl (by simp [setRow_size]) (fun b _ hne => setRow_other _ _ _ _ hne) fun L => ?_
            refine ⟨by simpa using b1, fun j row' hj => ?_, fun _ => ⟨_, ty, setRow_heap _ _ _ _ _ _ h1, ?_, fun j row' k p hj hk => ?_⟩⟩
            · rw [List.getElem?_set] at hj
              by_cases e : r = j
              · subst e
                simp only [if_pos, hlt] at hj; injection hj with hj; subst hj
                rw [hsg.1]; exact hrl
              · rw [if_neg e] at hj; exact b2 j row' hj
            · have := (arr_splice_get hl' 0).2
              simp only [Array.length_toList] at this
              rw [this, h2]
            · have hag := (arr_splice_get hl' ((c.vd i).1 + (j * sz + k))).1
              simp only [Array.length_toList] at hag
              rw [hag]
              rw [List.getElem?_set] at hj
              have old : ∀ (row0 : List PV), rows[j]? = some row0 → row0[k]? = some p → ∃ q, vs[(c.vd i).1 + (j * sz + k)]? = some q ∧ q.oneCell' = true ∧ Rep c.ok (w.setRow (c.mu i) (vs.toList.take ((c.vd i).1 + r * sz + off) ++ v.cells.toList ++ vs.toList.drop ((c.vd i).1 + r * sz + off + v.cells.size)).toArray) p q := fun row0 e1 e2 => by
                obtain ⟨q, q1, q2, q3⟩ := h3 j row0 k p e1 e2
                exact ⟨q, q1, q2, q3.mono L.okm L.keep⟩
              by_cases hjr : r = j
              · subst hjr
                simp only [if_pos, hlt] at hj; injection hj with hj; subst hj
                rw [hsg.2 k] at hk
                by_cases hr : off ≤ k ∧ k < off + ps.length
                · rw [if_pos hr] at hk
                  rw [if_pos (by omega)]
                  obtain ⟨xx, e1, e2⟩ := p2 (k - off) p hk
                  obtain ⟨q, q1, q2, q3⟩ := g2 (k - off) xx e1
                  refine ⟨q, ?_, q2, (q3.later L).pur e2⟩
                  rw [Array.getElem?_toList, ← q1]
                  congr 1; omega
                · rw [if_neg hr] at hk
                  rw [if_neg (by omega)]
                  exact old row hrow hk
              · rw [if_neg hjr] at hj
                have hkl : k < sz := by have := b2 j row' hj; have := (List.getElem?_eq_some_iff.1 hk).1; omega
                have hne : ¬ ((c.vd i).1 + r * sz + off ≤ (c.vd i).1 + (j * sz + k) ∧ (c.vd i).1 + (j * sz + k) < (c.vd i).1 + r * sz + off + v.cells.size) := by
                  intro ⟨e1, e2⟩
                  rcases Nat.lt_or_gt_of_ne hjr with hlt' | hlt'
                  · have : (r + 1) * sz ≤ j * sz := Nat.mul_le_mul_right _ hlt'
                    omega
                  · have h5 : (j + 1) * sz ≤ r * sz := Nat.mul_le_mul_right _ hlt'
                    have h6 : (j + 1) * sz = j * sz + sz := Nat.succ_mul j sz
                    omega
                rw [if_neg hne]
                exact old row' hj hk
          · cases hd
    | nb | gone | box | mp => simp at hd
  | pv | el | vs | sl | agg | tup | fn | ifc | mp | any => simp [storeA] at hd

/-! ### What an operation yields -/
section
variable {P : Program} {z : Ini} {o : Oper} {ρ : Operand → Value} {c : Cx} {h : List ABlk} {w : World}

/-- A value, and nothing else. -/
theorem Yields.val (s : MSim z h c w) {r : AV} {v : Value} (he : (execOp ρ o).run P w = .ok (.value v) w) (hr : ARep c h w r v) : Yields P z o ρ c h w r h := by
  unfold Yields
  rw [he]
  exact ⟨c, Later.refl _ _ _, s, hr⟩

/-- A new variable. -/
theorem Yields.var (s : MSim z h c w) {e : TypeId} {v : Value} {xs : List AV} (i : Nat) (hu : unborn h i) (hn : z.n ≤ i)
    (he : (execOp ρ o).run P w = .ok (.value (.pointer (some ⟨w.heap.size, 0, none⟩))) (w.alloc (.cells v.cells e)))
    (hx : v.cells.size = xs.length ∧ ∀ (k : Nat) (x : AV), xs[k]? = some x → ∃ u, v.cells[k]? = some u ∧ u.oneCell' = true ∧ ARep c h w x u) :
    Yields P z o ρ c h w (.ptr i 0) (setx h i (.box xs)) := by
  unfold Yields
  rw [he]
  have L := Later.born s i hu (.box xs) w.heap.size (0, 0) (.cells v.cells e)
  obtain ⟨_, M⟩ := s.born i hu hn (.box xs) (0, 0) (.cells v.cells e) ⟨v.cells, e, by rw [Cx.born_mu]; exact heap_alloc_new w _, hx.1, fun k x hk => by
    obtain ⟨u, h1, h2, h3⟩ := hx.2 k x hk
    exact ⟨u, h1, h2, h3.later L⟩⟩
  exact ⟨_, L, M, .ptr i 0 _ (.box xs) rfl (setx_same _ _ _) (by intro h; cases h) fun cs _ => by rw [Cx.born_mu]⟩

theorem Yields.store (s : MSim z h c w) {t : TypeId} {x y : Operand} {xa ya : AV} {d : List (Nat × ABlk)} (ho : o.op = .store t x y) (hx : ARep c h w xa (ρ x)) (hy : ARep c h w ya (ρ y))
    (hd : storeA (szOf P t) h ya xa = some d) (hs : 0 < szOf P t) : Yields P z o ρ c h w .any (app h d) := by
  obtain ⟨w', h1, h2, h3⟩ := storeA_run (P := P) (t := t) s hx hy hd hs
  unfold Yields
  have : (execOp ρ o).run P w = .ok .skip w' := by simp [execOp, ho, h1]
  rw [this]
  exact ⟨c, h2, h3, .any _⟩
end
end Go.Ab
namespace Go.Ab
open Go.RowKit
set_option linter.unusedVariables false
set_option linter.unusedSimpArgs false

/-! ### Reckoning -/
def iand (k : IntKind) (a b : Int) : Int := k.wrap (BitVec.ofInt k.bits a &&& BitVec.ofInt k.bits b).toNat
def ior (k : IntKind) (a b : Int) : Int := k.wrap (BitVec.ofInt k.bits a ||| BitVec.ofInt k.bits b).toNat
def ixor (k : IntKind) (a b : Int) : Int := k.wrap (BitVec.ofInt k.bits a ^^^ BitVec.ofInt k.bits b).toNat
def ishl (k : IntKind) (a b : Int) : Int := k.wrap (a * 2 ^ (min b.toNat k.bits))
def ishr (k : IntKind) (a b : Int) : Int := a.fdiv (2 ^ (min b.toNat k.bits))
/-- A text's byte. -/
def bat (s : ByteArray) (n : Nat) : Int := ((s.data.toList.getD n 0).toNat : Int)

def intB (op : BinOp) (k : IntKind) (a b : Int) : Option PV :=
  match op with
  | .add => some (.int k (k.wrap (a + b)))
  | .sub => some (.int k (k.wrap (a - b)))
  | .mul => some (.int k (k.wrap (a * b)))
  | .quo => if b = 0 then none else some (.int k (k.wrap (a.tdiv b)))
  | .rem => if b = 0 then none else some (.int k (a.tmod b))
  | .and => some (.int k (iand k a b))
  | .or => some (.int k (ior k a b))
  | .xor => some (.int k (ixor k a b))
  | .eql => some (.bool (decide (a = b)))
  | .neq => some (.bool (!decide (a = b)))
  | .lss => some (.bool (decide (a < b)))
  | .leq => some (.bool (decide (a ≤ b)))
  | .gtr => some (.bool (decide (b < a)))
  | .geq => some (.bool (decide (b ≤ a)))
  | _ => none
def binA (op : BinOp) : AV → AV → Option PV
  | .pv (.int k a), .pv (.int k' b) =>
    match op with
    | .shl => if b < 0 then none else some (.int k (ishl k a b))
    | .shr => if b < 0 then none else some (.int k (ishr k a b))
    | _ => if k = k' then intB op k a b else none
  | .pv (.str a), .pv (.str b) =>
    match op with
    | .eql => some (.bool (decide (a = b)))
    | .neq => some (.bool (!decide (a = b)))
    | .add => if a.size + b.size ≤ 9223372036854775807 then some (.str (a ++ b)) else none
    | _ => none
  | _, _ => none

theorem toList_eq_iff (a b : ByteArray) : (a.toList == b.toList) = decide (a = b) := by
  have : a.toList = b.toList ↔ a = b := by
    constructor
    · intro h
      have ha : a.data.toList = b.data.toList := by
        have e : ∀ s : ByteArray, s.toList = s.data.toList := fun s => ByteArray.toList_eq s
        rwa [e, e] at h
      cases a; cases b; simp_all
    · intro h; rw [h]
  by_cases h : a = b
  · simp [h]
  · simp [h, this]

theorem binA_run {P : Program} {op : BinOp} {T : TypeId} {X Y : Operand} {c : Cx} {h : List ABlk} {w : World} {x y : AV} {u v : Value} {p : PV} (hx : ARep c h w x u) (hy : ARep c h w y v) (hb : binA op x y = some p) :
    ∃ q, (do eqGuard op T X Y u v; binOp op T u v : Sem Value).run P w = .ok q w ∧ Rep c.ok w p q := by
  cases hx with
  | pv p1 _ r1 =>
    cases hy with
    | pv p2 _ r2 =>
      cases r1 with
      | int k a =>
        cases r2 with
        | int k' b =>
          have hg : ∀ q, (binOp op T (.int k a) (.int k' b)).run P w = .ok q w → (do eqGuard op T X Y (.int k a) (.int k' b); binOp op T (.int k a) (.int k' b) : Sem Value).run P w = .ok q w := by
            intro q hq
            cases op <;> simp [eqGuard, hq]
          by_cases hsh : op = .shl ∨ op = .shr
          · rcases hsh with rfl | rfl
            · simp only [binA] at hb
              split at hb
              · cases hb
              · rename_i hneg
                injection hb with hb; subst hb
                exact ⟨_, hg _ (by simp [binOp, Op.shift, hneg]; rfl), .int _ _⟩
            · simp only [binA] at hb
              split at hb
              · cases hb
              · rename_i hneg
                injection hb with hb; subst hb
                exact ⟨_, hg _ (by simp [binOp, Op.shift, hneg]; rfl), .int _ _⟩
          · have hb' : (if k = k' then intB op k a b else none) = some p := by
              cases op <;> simp_all [binA]
            split at hb'
            · rename_i hk; subst hk
              cases op <;> simp only [intB] at hb' <;> first
                | (injection hb' with hb'; subst hb'; exact ⟨_, hg _ (by simp [binOp, Op.intArith, Op.intBits, Op.intCmp, iand, ior, ixor]; try rfl), by constructor⟩)
                | (split at hb'
                   · cases hb'
                   · rename_i h0
                     injection hb' with hb'; subst hb'
                     exact ⟨_, hg _ (by simp [binOp, Op.intDiv, h0]; rfl), by constructor⟩)
                | cases hb'
            · cases hb'
        | _ => simp [binA] at hb
      | str a =>
        cases r2 with
        | str b =>
          have hg : ∀ q, (binOp op T (.string a) (.string b)).run P w = .ok q w → (do eqGuard op T X Y (.string a) (.string b); binOp op T (.string a) (.string b) : Sem Value).run P w = .ok q w := by
            intro q hq
            cases op <;> simp [eqGuard, hq]
          cases op <;> simp only [binA] at hb <;> first
            | (injection hb with hb; subst hb; exact ⟨_, hg _ (by simp [binOp, Op.stringOp, toList_eq_iff]; try rfl), by constructor⟩)
            | (split at hb
               · rename_i hl
                 injection hb with hb; subst hb
                 refine ⟨_, hg _ ?_, .str _⟩
                 have : ¬ (((a.size + b.size : Nat) : Int) > IntKind.i64.max) := by simp [IntKind.max, IntKind.signed, IntKind.bits]; omega
                 simp only [binOp, Op.stringOp, if_neg this]
                 rfl
               · cases hb)
            | cases hb
        | _ => simp [binA] at hb
      | _ => simp [binA] at hb
    | _ => cases p1 <;> simp [binA] at hb
  | _ => simp [binA] at hb

def unA (u : UnOp) : AV → Option PV
  | .pv (.bool b) => match u with | .not => some (.bool (!b)) | _ => none
  | .pv (.int k n) => match u with
    | .neg => some (.int k (k.wrap (0 - n)))
    | .xor => some (.int k (ixor k (if k.signed then -1 else k.max) n))
    | _ => none
  | _ => none
theorem unA_run {P : Program} {u : UnOp} {c : Cx} {h : List ABlk} {w : World} {x : AV} {v : Value} {p : PV} (hx : ARep c h w x v) (hb : unA u x = some p) :
    ∃ q, (Op.unary u v).run P w = .ok q w ∧ Rep c.ok w p q := by
  cases hx with
  | pv p1 _ r1 =>
    cases r1 with
    | bool b => cases u <;> simp [unA] at hb; subst hb; exact ⟨_, by simp [Op.unary], .bool _⟩
    | int k n => cases u <;> simp [unA] at hb <;> subst hb <;> exact ⟨_, by simp [Op.unary, Op.intArith, Op.intBits, ixor] <;> rfl, .int _ _⟩
    | _ => simp [unA] at hb
  | _ => simp [unA] at hb

def convA (P : Program) (src dst : TypeId) : AV → Option PV
  | .pv (.int _ n) => match tk P dst, P.underlying src with | .int k, some _ => some (.int k (k.wrap n)) | _, _ => none
  | .pv (.str s) => match tk P dst, P.underlying src with | .str, some _ => some (.str s) | _, _ => none
  | _ => none
theorem tk_int {P : Program} {t : TypeId} {k : IntKind} (h : tk P t = .int k) : P.underlying t = some (.int k) := by
  unfold tk at h; split at h <;> first | (injection h with h; subst h; assumption) | cases h
theorem tk_str {P : Program} {t : TypeId} (h : tk P t = .str) : P.underlying t = some .string := by
  unfold tk at h; split at h <;> first | assumption | cases h
theorem tk_slice {P : Program} {t : TypeId} {e s b : Nat} (h : tk P t = .slice e s b) : P.underlying t = some (.slice e) ∧ szOf P e = s ∧ byOf P e = b := by
  unfold tk at h; split at h <;> first | (injection h with h1 h2 h3; subst h1; exact ⟨by assumption, h2, h3⟩) | cases h
theorem tk_arr {P : Program} {t : TypeId} {n e s : Nat} {g : Bool} (h : tk P t = .arr n e s g) : P.underlying t = some (.array n e) ∧ szOf P e = s ∧ (agOf P e == 2) = g := by
  unfold tk at h; split at h <;> first | (injection h with h1 h2 h3 h4; subst h1; subst h2; exact ⟨by assumption, h3, h4⟩) | cases h
theorem tk_strct {P : Program} {t : TypeId} {fs : List (Nat × Nat × Nat × Bool)} (h : tk P t = .strct fs) : ∃ fs', P.underlying t = some (.struct fs') ∧ fs = fs'.toList.map fun f => (f.type, f.offset, szOf P f.type, agOf P f.type == 2) := by
  unfold tk at h; split at h <;> first | (injection h with h; exact ⟨_, by assumption, h.symm⟩) | cases h
theorem convA_run {P : Program} {src dst : TypeId} {c : Cx} {h : List ABlk} {w : World} {x : AV} {v : Value} {p : PV} (hx : ARep c h w x v) (hb : convA P src dst x = some p) :
    ∃ q, (convert src dst v).run P w = .ok q w ∧ Rep c.ok w p q := by
  cases hx with
  | pv p1 _ r1 =>
    cases r1 with
    | int k n =>
      simp only [convA] at hb
      split at hb
      · rename_i k' d h1 h2
        injection hb with hb; subst hb
        exact ⟨_, by simp [convert, run_underlying h2, run_underlying (tk_int h1), Conv.intToInt], .int _ _⟩
      · cases hb
    | str s =>
      simp only [convA] at hb
      split at hb
      · rename_i d h1 h2
        injection hb with hb; subst hb
        refine ⟨.string s, ?_, .str _⟩
        simp only [convert, Sem.run_bind, run_underlying h2, run_underlying (tk_str h1), Result.andThen_ok]
        cases d <;> rfl
      · cases hb
    | _ => simp [convA] at hb
  | _ => simp [convA] at hb
end Go.Ab
namespace Go.Ab
open Go.RowKit
set_option linter.unusedVariables false
set_option linter.unusedSimpArgs false

/-! ### Addresses -/
def fieldA (k : TK) (f : Nat) (x : AV) : Option AV :=
  match k with
  | .strct fs => match fs[f]? with
    | some (_, off, sz, _) => if sz = 0 then none else
      match x with
      | .ptr i o => some (.ptr i (o + off))
      | .el row o => some (.el row (o + off))
      | .ve i r o => some (.ve i r (o + off))
      | _ => none
    | none => none
  | _ => none

/-- An address moved on. -/
def shiftA (n : Nat) : AV → AV
  | .ptr i o => .ptr i (o + n)
  | .el row o => .el row (o + n)
  | .ve i r o => .ve i r (o + n)
  | _ => .any
theorem ARep.shift {c : Cx} {h : List ABlk} {w : World} {x y : AV} {v : Value} {n : Nat} (hx : ARep c h w x v) (hy : y = shiftA n x)
    (hn : ∃ a, v = .pointer (some a)) : ∃ a, v = .pointer (some a) ∧ ARep c h w y (.pointer (some (a.add n))) := by
  obtain ⟨a, rfl⟩ := hn
  refine ⟨a, rfl, ?_⟩
  cases hx with
  | ptr i o _ b ho hi hb hv =>
    subst hy
    refine .ptr i (o + n) _ b rfl hi hb fun cs e => ?_
    have := hv cs e
    injection this with this; injection this with this; subst this
    rw [Addr.add_plain]
  | el row o a us hc => subst hy; rw [Addr.add_add]; exact .el row (o + n) _ us hc
  | ve i r o _ b ho hi hb hv =>
    subst hy
    refine .ve i r (o + n) _ b rfl hi hb fun sz rows e => ?_
    have := hv sz rows e
    injection this with this; injection this with this; subst this
    rw [Addr.add_plain, Nat.add_assoc]
  | _ => subst hy; exact .any _

/-- An address of the call's own, or of an element, is one. -/
theorem ARep.isPtr {c : Cx} {h : List ABlk} {w : World} {x : AV} {v : Value} (hx : ARep c h w x v) (hl : (∃ i o cs, x = .ptr i o ∧ h[i]? = some (.box cs)) ∨ (∃ row o, x = .el row o) ∨ (∃ i r o sz rows, x = .ve i r o ∧ h[i]? = some (.vec sz rows))) :
    ∃ a, v = .pointer (some a) := by
  rcases hl with ⟨i, o, cs, rfl, hi⟩ | ⟨row, o, rfl⟩ | ⟨i, r, o, sz, rows, rfl, hi⟩
  · cases hx with
    | ptr _ _ _ b ho hi' hb hv => rw [hi] at hi'; injection hi' with hi'; subst hi'; exact ⟨_, hv _ rfl⟩
  · cases hx with
    | el _ _ a us hc => exact ⟨_, rfl⟩
  · cases hx with
    | ve _ _ _ _ b ho hi' hb hv => rw [hi] at hi'; injection hi' with hi'; subst hi'; exact ⟨_, hv _ _ rfl⟩

/-- Does x lead to memory that is there? -/
def live (h : List ABlk) : AV → Bool
  | .ptr i _ => match h[i]? with | some (.box _) => true | _ => false
  | .el _ _ => true
  | .ve i _ _ => match h[i]? with | some (.vec _ _) => true | _ => false
  | _ => false
theorem live_ptr {c : Cx} {h : List ABlk} {w : World} {x : AV} {v : Value} (hx : ARep c h w x v) (hl : live h x = true) : ∃ a, v = .pointer (some a) := by
  refine hx.isPtr ?_
  cases x with
  | ptr i o =>
    simp only [live] at hl
    split at hl
    · rename_i cs e; exact .inl ⟨i, o, cs, rfl, e⟩
    · cases hl
  | el row o => exact .inr (.inl ⟨row, o, rfl⟩)
  | ve i r o =>
    simp only [live] at hl
    split at hl
    · rename_i sz rows e; exact .inr (.inr ⟨i, r, o, sz, rows, rfl, e⟩)
    · cases hl
  | _ => simp [live] at hl

theorem fieldA_run {P : Program} {t : TypeId} {f : Nat} {c : Cx} {h : List ABlk} {w : World} {x y : AV} {v : Value} (hx : ARep c h w x v) (hf : fieldA (tk P t) f x = some y) (hl : live h x = true) :
    ∃ u, (Instr.fieldAt t v f).run P w = .ok u w ∧ ARep c h w y u := by
  unfold fieldA at hf
  split at hf
  · rename_i fs hk
    obtain ⟨fs', hu, rfl⟩ := tk_strct hk
    split at hf
    · rename_i q off sz g hg
      split at hf
      · cases hf
      · rename_i hsz
        simp only [List.getElem?_map, Option.map_eq_some_iff] at hg
        obtain ⟨fd, hfd, he⟩ := hg
        simp only [Prod.mk.injEq] at he
        obtain ⟨_, rfl, rfl, _⟩ := he
        have hsz' : 0 < szOf P fd.type := by omega
        obtain ⟨a, rfl⟩ := live_ptr hx hl
        have hy : y = shiftA fd.offset x := by
          cases x <;> simp at hf <;> first | exact hf.symm | cases hf
        obtain ⟨a', e, hr⟩ := hx.shift hy ⟨a, rfl⟩
        injection e with e; injection e with e; subst e
        refine ⟨_, ?_, hr⟩
        have hfd' : fs'[f]? = some fd := by simpa using hfd
        simp [Instr.fieldAt, run_underlying hu, hfd', Instr.sureAddr, fieldPlace, szOf_run rfl hsz']
        omega
    · cases hf
  · cases hf

/-! ### Parts of a value -/
/-- A value's cells, as they stand. -/
def vcells : AV → Option (List AV)
  | .agg xs => some xs
  | .pv (.agg ps) => some (ps.map .pv)
  | _ => none
theorem vcells_rep {c : Cx} {h : List ABlk} {w : World} {x : AV} {v : Value} {xs : List AV} (hx : ARep c h w x v) (he : vcells x = some xs) :
    ∃ vs : List Value, v = .agg vs.toArray ∧ xs.length = vs.length ∧ (∀ u ∈ vs, u.oneCell' = true) ∧ ∀ (k : Nat) (x : AV) (v : Value), xs[k]? = some x → vs[k]? = some v → ARep c h w x v := by
  cases hx with
  | agg ys vs hl ho hr => simp [vcells] at he; subst he; exact ⟨vs, rfl, hl, ho, hr⟩
  | pv p _ hr =>
    cases hr with
    | agg ps vs hl ho hr =>
      simp [vcells] at he; subst he
      refine ⟨vs, rfl, by simpa using hl, ho, fun k x v hk hv => ?_⟩
      simp only [List.getElem?_map, Option.map_eq_some_iff] at hk
      obtain ⟨p, hp, rfl⟩ := hk
      exact .pv _ _ (hr k p v hp hv)
    | _ => simp [vcells] at he
  | _ => simp [vcells] at he

theorem part_run {P : Program} {t : TypeId} {off : Nat} {c : Cx} {h : List ABlk} {w : World} {xs : List AV} {vs : List Value} {y : AV} (hl : xs.length = vs.length) (ho : ∀ u ∈ vs, u.oneCell' = true)
    (hr : ∀ (k : Nat) (x : AV) (v : Value), xs[k]? = some x → vs[k]? = some v → ARep c h w x v) (hs : 0 < szOf P t) (hp : loadC (agOf P t) (szOf P t) xs off = some y) :
    ∃ u, (part t vs.toArray off).run P w = .ok u w ∧ ARep c h w y u := by
  unfold loadC at hp
  split at hp
  · rename_i hag
    split at hp
    · rename_i hle
      injection hp with hp; subst hp
      have he : vs.toArray.extract off (off + szOf P t) = ((vs.drop off).take (szOf P t)).toArray := by
        simp [List.extract_toArray, List.extract_eq_take_drop]
      refine ⟨.agg ((vs.drop off).take (szOf P t)).toArray, by simp [part, agOf_run hag (by omega), szOf_run rfl hs, he], .agg _ _ (by simp [hl]) (fun u hu => ho u (List.mem_of_mem_drop (List.mem_of_mem_take hu))) fun k x v hk hv => ?_⟩
      rcases Nat.lt_or_ge k (szOf P t) with hlt | hge
      · rw [List.getElem?_take_of_lt hlt, List.getElem?_drop] at hk hv
        exact hr _ x v hk hv
      · rw [List.getElem?_eq_none (by simp; omega)] at hk; cases hk
    · cases hp
  · split at hp
    · rename_i hag
      have hlt : off < vs.length := by rw [← hl]; exact (List.getElem?_eq_some_iff.1 hp).1
      exact ⟨vs[off], by simp [part, agOf_run hag (by omega), hlt], hr off y _ hp (List.getElem?_eq_getElem hlt)⟩
    · cases hp

/-- A struct value's field. -/
def partA (P : Program) (k : TK) (f : Nat) (x : AV) : Option AV :=
  match k, vcells x with
  | .strct fs, some xs => match fs[f]? with
    | some (t, off, sz, _) => if sz = 0 then none else loadC (agOf P t) sz xs off
    | none => none
  | _, _ => none
theorem partA_run {P : Program} {t : TypeId} {f : Nat} {c : Cx} {h : List ABlk} {w : World} {x y : AV} {v : Value} (hx : ARep c h w x v) (hf : partA P (tk P t) f x = some y) :
    ∃ u, (Instr.field t v f).run P w = .ok u w ∧ ARep c h w y u := by
  unfold partA at hf
  split at hf
  · rename_i fs xs hk hv
    obtain ⟨fs', hu, rfl⟩ := tk_strct hk
    obtain ⟨vs, rfl, hl, ho, hr⟩ := vcells_rep hx hv
    split at hf
    · rename_i q off sz g hg
      split at hf
      · cases hf
      · rename_i hsz
        simp only [List.getElem?_map, Option.map_eq_some_iff] at hg
        obtain ⟨fd, hfd, he⟩ := hg
        simp only [Prod.mk.injEq] at he
        obtain ⟨rfl, rfl, rfl, _⟩ := he
        obtain ⟨u, h1, h2⟩ := part_run hl ho hr (by omega) hf
        have hfd' : fs'[f]? = some fd := by simpa using hfd
        exact ⟨u, by simp [Instr.field, run_underlying hu, hfd', asAgg, h1], h2⟩
    · cases hf
  · cases hf

/-! ### Elements -/
/-- The address of an element: of an array, of a list, of a slice of the call's own. -/
def elemA (k : TK) (h : List ABlk) (x : AV) (j : Int) : Option AV :=
  match k, x with
  | .arr n _ sz _, .ptr i o => if 0 ≤ j ∧ j < n then if sz = 0 then none else some (.ptr i (o + j.toNat * sz)) else none
  | .slice _ sz _, .pv (.lst _ sz' rows) => if 0 ≤ j then match rows[j.toNat]? with
    | some row => if sz = sz' ∧ 0 < sz then some (.el row 0) else none
    | none => none else none
  | .slice _ sz _, .vs i off n => match h[i]? with
    | some (.vec sz' _) => if 0 ≤ j ∧ j < n then if sz = sz' ∧ 0 < sz then some (.ve i (off + j.toNat) 0) else none else none
    | _ => none
  | .slice _ sz _, .sl i off n _ => if 0 ≤ j ∧ j < n then if sz = 0 then none else some (.ptr i (off + j.toNat * sz)) else none
  | _, _ => none

theorem elemA_run {P : Program} {t : TypeId} {z : Ini} {c : Cx} {h : List ABlk} {w : World} (s : MSim z h c w) {x y : AV} {v : Value} {k : IntKind} {j : Int} (hx : ARep c h w x v) (he : elemA (tk P t) h x j = some y) (hl : ∀ i o, x = .ptr i o → live h x = true)
    (hl' : ∀ i off n cap, x = .sl i off n cap → ∃ cs, h[i]? = some (.box cs)) :
    ∃ u, (Instr.indexAt t v (.int k j)).run P w = .ok u w ∧ ARep c h w y u := by
  unfold elemA at he
  split at he
  · rename_i n e sz g i o hk
    obtain ⟨hu, rfl, _⟩ := tk_arr hk
    split at he
    · rename_i hj
      split at he
      · cases he
      · rename_i hsz
        injection he with he; subst he
        obtain ⟨a, rfl⟩ := live_ptr hx (hl i o rfl)
        obtain ⟨a', e', hr⟩ := hx.shift (n := j.toNat * szOf P e) rfl ⟨a, rfl⟩
        injection e' with e'; injection e' with e'; subst e'
        exact ⟨_, by simp [Instr.indexAt, asIntOf, run_underlying hu, Instr.sureAddr, hj, szOf_run (P := P) (t := e) rfl (by omega)], hr⟩
    · cases he
  · rename_i e sz b fl sz' rows hk
    obtain ⟨hu, rfl, _⟩ := tk_slice hk
    split at he
    · rename_i hj0
      split at he
      · rename_i row hrow
        split at he
        · rename_i hsz
          injection he with he; subst he
          obtain ⟨rfl, hpos⟩ := hsz
          cases hx with
          | pv _ _ hr =>
            cases hr with
            | lst _ _ _ A cc us hlen hc hf hA hcell hrep =>
              have hlt : j.toNat < rows.length := (List.getElem?_eq_some_iff.1 hrow).1
              obtain ⟨ad, rfl⟩ := hA (by omega)
              have hj : 0 ≤ j ∧ j < (rows.length : Int) := ⟨hj0, by omega⟩
              refine ⟨.pointer (some ((ad.add (j.toNat * szOf P e)).add 0)), by simp [Instr.indexAt, asIntOf, run_underlying hu, hj, szOf_run (P := P) (t := e) rfl hpos, Addr.add], .el row 0 (ad.add (j.toNat * szOf P e)) (us j.toNat) fun q p hq => ?_⟩
              obtain ⟨h1, h2, h3⟩ := hcell ad rfl j.toNat row q p hrow hq
              exact ⟨by rw [Addr.add_block]; exact h1, by rw [Addr.add_add]; exact h2, h3, hrep j.toNat row q p hrow hq⟩
        · cases he
      · cases he
    · cases he
  · rename_i e sz b i off n hk
    obtain ⟨hu, rfl, _⟩ := tk_slice hk
    split at he
    · rename_i sz' rows hi
      split at he
      · rename_i hj
        split at he
        · rename_i hsz
          injection he with he; subst he
          obtain ⟨rfl, hpos⟩ := hsz
          cases hx with
          | vs _ _ _ _ b ho hi' hb hv =>
            rw [hi] at hi'; injection hi' with hi'; subst hi'
            obtain ⟨h1, A, rfl, h3⟩ := hv _ _ rfl
            have hcap : rows.length ≤ (c.vd i).2 := (s.hs.blk i _ hi).1
            obtain rfl := h3 (by omega)
            refine ⟨_, by simp [Instr.indexAt, asIntOf, run_underlying hu, hj, szOf_run (P := P) (t := e) rfl hpos]; rfl, .ve i (off + j.toNat) 0 _ _ rfl hi hb fun sz2 rows2 e2 => ?_⟩
            injection e2 with e2 e3; subst e2
            rw [Addr.add_plain, Nat.add_mul]
            congr 3
            simp [Nat.add_assoc]
        · cases he
      · cases he
    · cases he
  · rename_i e sz b i off n cap hk
    obtain ⟨hu, rfl, _⟩ := tk_slice hk
    split at he
    · rename_i hj
      split at he
      · cases he
      · rename_i hsz
        injection he with he; subst he
        obtain ⟨cs, hi⟩ := hl' i off n cap rfl
        cases hx with
        | sl _ _ _ _ _ b ho hi' hb hv =>
          rw [hi] at hi'; injection hi' with hi'; subst hi'
          obtain ⟨h1, A, rfl, h3⟩ := hv _ rfl
          obtain rfl := h3 (by omega)
          refine ⟨_, by simp [Instr.indexAt, asIntOf, run_underlying hu, hj, szOf_run (P := P) (t := e) rfl (by omega)]; rfl, .ptr i _ _ _ rfl hi hb fun cs2 e2 => ?_⟩
          rw [Addr.add_plain]
    · cases he
  · cases he
end Go.Ab
namespace Go.Ab
open Go.RowKit
set_option linter.unusedVariables false
set_option linter.unusedSimpArgs false

/-! ### Cells, one by one -/
def CRep (c : Cx) (h : List ABlk) (w : World) (xs : List AV) (cs : Array Value) : Prop :=
  cs.size = xs.length ∧ ∀ (k : Nat) (x : AV), xs[k]? = some x → ∃ u, cs[k]? = some u ∧ u.oneCell' = true ∧ ARep c h w x u

theorem foldl_put (off : Nat) : ∀ (l : List Value) (i : Nat) (cs : Array Value), ((l.zipIdx i).foldl (fun cs (c, j) => cs.setIfInBounds (off + j) c) cs).size = cs.size ∧
    ∀ k, ((l.zipIdx i).foldl (fun cs (c, j) => cs.setIfInBounds (off + j) c) cs)[k]? = if off + i ≤ k ∧ k < off + i + l.length ∧ k < cs.size then l[k - off - i]? else cs[k]?
  | [], i, cs => ⟨rfl, fun k => by rw [if_neg (by simp; omega)]; rfl⟩
  | v :: l, i, cs => by
    have ih := foldl_put off l (i + 1) (cs.setIfInBounds (off + i) v)
    simp only [List.zipIdx_cons, List.foldl_cons, Array.size_setIfInBounds] at ih ⊢
    refine ⟨ih.1, fun k => ?_⟩
    rw [ih.2 k]
    by_cases h1 : k = off + i
    · subst h1
      rw [if_neg (by omega), Array.getElem?_setIfInBounds]
      simp only [if_pos]
      by_cases h2 : off + i < cs.size
      · rw [if_pos h2, if_pos ⟨by omega, by simp, h2⟩]
        simp
      · rw [if_neg h2, if_neg (by omega), Array.getElem?_eq_none (by omega)]
    · by_cases h2 : off + (i + 1) ≤ k ∧ k < off + (i + 1) + l.length ∧ k < cs.size
      · rw [if_pos h2, if_pos ⟨by omega, by simp; omega, h2.2.2⟩]
        rw [show k - off - i = (k - off - (i + 1)) + 1 from by omega, List.getElem?_cons_succ]
      · rw [if_neg h2, Array.getElem?_setIfInBounds, if_neg (by omega), if_neg (by simp; omega)]

def fillA (place : Nat → Option (Nat × Nat)) (zs : List AV) : List (Nat × AV) → Option (List AV)
  | [] => some zs
  | (i, x) :: l => match place i, acells x with
    | some (off, sz), some ys => if ys.length = sz ∧ off + sz ≤ zs.length then fillA place (splice zs off ys) l else none
    | _, _ => none

theorem fillA_run {c : Cx} {h : List ABlk} {w : World} {place : Nat → Option (Nat × Nat)} : ∀ (l : List (Nat × AV)) (vs : List (Nat × Value)) (zs r : List AV) (cs : Array Value), l.length = vs.length →
    (∀ (k : Nat) (i : Nat) (x : AV), l[k]? = some (i, x) → ∃ v, vs[k]? = some (i, v) ∧ ARep c h w x v) → CRep c h w zs cs → fillA place zs l = some r → ∃ cs', Instr.fill place cs vs = some cs' ∧ CRep c h w r cs'
  | [], vs, zs, r, cs, hl, _, hz, hr => by
    simp at hl
    obtain rfl : vs = [] := List.eq_nil_of_length_eq_zero hl.symm
    simp [fillA] at hr; subst hr
    exact ⟨cs, rfl, hz⟩
  | (i, x) :: l, vs, zs, r, cs, hl, hp, hz, hr => by
    obtain ⟨v, hv, hx⟩ := hp 0 i x rfl
    cases vs with
    | nil => simp at hv
    | cons q vs =>
      simp at hv; subst hv
      simp only [fillA] at hr
      split at hr
      · rename_i off sz ys h1 h2
        split at hr
        · rename_i hsz
          obtain ⟨g1, g2⟩ := hx.cells h2
          have hsp := splice_get zs ys off (by omega)
          have hf := foldl_put off v.cells.toList 0 cs
          have hz' : CRep c h w (splice zs off ys) ((v.cells.toList.zipIdx 0).foldl (fun cs (c, j) => cs.setIfInBounds (off + j) c) cs) := by
            refine ⟨by rw [hf.1, hz.1, hsp.1], fun k y hk => ?_⟩
            rw [hsp.2 k] at hk
            rw [hf.2 k]
            have hlen : v.cells.toList.length = ys.length := by simpa using g1
            have hsize := hz.1
            by_cases hin : off ≤ k ∧ k < off + ys.length
            · rw [if_pos hin] at hk
              rw [if_pos (by omega)]
              obtain ⟨u, u1, u2, u3⟩ := g2 (k - off) y hk
              exact ⟨u, by rw [Nat.sub_zero, Array.getElem?_toList]; exact u1, u2, u3⟩
            · rw [if_neg hin] at hk
              rw [if_neg (by omega)]
              exact hz.2 k y hk
          obtain ⟨cs', e1, e2⟩ := fillA_run l vs _ r _ (by simpa using hl) (fun k i x hk => by simpa using hp (k + 1) i x (by simpa using hk)) hz' hr
          refine ⟨cs', ?_, e2⟩
          have hsize := hz.1
          have hcond : ¬ ((v.cells.size ≠ sz || decide (off + v.cells.size > cs.size)) = true) := by simp; omega
          have hfold : v.cells.zipIdx.foldl (fun cs (x : Value × Nat) => cs.setIfInBounds (off + x.2) x.1) cs = (v.cells.toList.zipIdx 0).foldl (fun cs (c, j) => cs.setIfInBounds (off + j) c) cs := by
            rw [← Array.foldl_toList]; simp
          simp only [Instr.fill, h1]
          rw [if_neg hcond]
          rw [← e1]
          congr 1
        · cases hr
      · cases hr

theorem run_mapM {P : Program} {α β : Type} {f : α → Sem β} {g : α → β} {w : World} : ∀ (l : List α), (∀ x ∈ l, (f x).run P w = .ok (g x) w) → (l.mapM f).run P w = .ok (l.map g) w
  | [], _ => by simp
  | x :: l, h => by
    rw [List.mapM_cons]
    simp [h x (by simp), run_mapM l (fun y hy => h y (by simp [hy]))]

/-- A struct or an array out of parts. -/
def buildA (P : Program) (t : TypeId) (parts : List (Nat × AV)) : Option AV :=
  match zro P t, tk P t with
  | some zs, .strct fs => if fs.all (fun f => decide (0 < f.2.2.1)) then (fillA (fun i => (fs[i]?).map fun f => (f.2.1, f.2.2.1)) zs parts).map .agg else none
  | some zs, .arr n e sz g => if 0 < sz then (fillA (fun i => some (i * sz, sz)) zs parts).map .agg else none
  | _, _ => none

theorem agg_of_cells {c : Cx} {h : List ABlk} {w : World} {xs : List AV} {cs : Array Value} (r : CRep c h w xs cs) : ARep c h w (.agg xs) (.agg cs) := by
  have h2 : cs = cs.toList.toArray := by simp
  rw [h2]
  refine .agg xs cs.toList (by simp [r.1]) (fun v hv => ?_) fun k x v hk hv => ?_
  · obtain ⟨k, hk, e⟩ := List.getElem_of_mem hv
    have hk' : k < xs.length := by rw [← r.1]; simpa using hk
    obtain ⟨u, u1, u2, _⟩ := r.2 k _ (List.getElem?_eq_getElem hk')
    rw [← Array.getElem?_toList, List.getElem?_eq_getElem hk] at u1
    injection u1 with u1; rw [← e, u1]; exact u2
  · obtain ⟨u, u1, _, u3⟩ := r.2 k x hk
    rw [← Array.getElem?_toList, hv] at u1
    injection u1 with u1; rw [u1]; exact u3

theorem zro_rep {P : Program} {t : TypeId} {xs : List AV} (hz : zro P t = some xs) (c : Cx) (h : List ABlk) (w : World) : ∃ zv, (zeroValue t).run P w = .ok zv w ∧ CRep c h w xs zv.cells := by
  obtain ⟨zv, h1, h2⟩ := zro_run hz w
  obtain ⟨h3, h4⟩ := constVs_rep h2 c h w
  exact ⟨zv, h1, by simpa using h3, fun k x hk => by obtain ⟨v, v1, v2, v3⟩ := h4 k x hk; exact ⟨v, by rw [← Array.getElem?_toList]; exact v1, v2, v3⟩⟩

theorem buildA_run {P : Program} {t : TypeId} {c : Cx} {h : List ABlk} {w : World} {l : List (Nat × AV)} {vs : Array (Nat × Value)} {r : AV} (hl : l.length = vs.size)
    (hp : ∀ (k : Nat) (i : Nat) (x : AV), l[k]? = some (i, x) → ∃ v, vs[k]? = some (i, v) ∧ ARep c h w x v) (hb : buildA P t l = some r) :
    ∃ u, (Instr.build t vs).run P w = .ok u w ∧ ARep c h w r u := by
  unfold buildA at hb
  split at hb
  · rename_i zs fs hz hk
    obtain ⟨fs', hu, rfl⟩ := tk_strct hk
    obtain ⟨zv, h1, h2⟩ := zro_rep hz c h w
    split at hb
    · rename_i hall
      simp only [Option.map_eq_some_iff] at hb
      obtain ⟨q, hq, rfl⟩ := hb
      obtain ⟨cs', e1, e2⟩ := fillA_run l vs.toList zs q zv.cells (by simpa using hl) (fun k i x hk => by simpa using hp k i x hk) h2 hq
      refine ⟨.agg cs', ?_, agg_of_cells e2⟩
      have hm : (fs'.mapM (fun f => do pure (f.offset, ← sizeOf f.type) : Field → Sem (Nat × Nat))).run P w = .ok (fs'.map fun f => (f.offset, szOf P f.type)) w := by
        have := run_mapM (P := P) (w := w) (f := fun f => (do pure (f.offset, ← sizeOf f.type) : Sem (Nat × Nat))) (g := fun f : Field => (f.offset, szOf P f.type)) fs'.toList (fun f hf => by
          have : 0 < szOf P f.type := by
            simp only [List.all_map, List.all_eq_true, Function.comp] at hall
            simpa using hall f hf
          simp [szOf_run rfl this])
        rw [← Array.toArray_toList (xs := fs'), List.mapM_toArray, map_eq_pure_bind, Sem.run_bind, this]
        simp only [Result.andThen_ok, Sem.run_pure]
        rw [← List.map_toArray, Array.toArray_toList]
      have hpl : (fun i : Nat => (fs'.map fun f => (f.offset, szOf P f.type))[i]?) = fun i : Nat => ((fs'.toList.map fun f => (f.type, f.offset, szOf P f.type, agOf P f.type == 2))[i]?).map fun f : Nat × Nat × Nat × Bool => (f.2.1, f.2.2.1) := by
        funext i
        simp only [List.getElem?_map, Array.getElem?_map, Array.getElem?_toList, Option.map_map]
        rfl
      simp only [Instr.build, Sem.run_bind, h1, Result.andThen_ok, run_underlying hu, hm]
      rw [hpl, e1]
      rfl
    · cases hb
  · rename_i zs n e sz g hz hk
    obtain ⟨hu, rfl, _⟩ := tk_arr hk
    obtain ⟨zv, h1, h2⟩ := zro_rep hz c h w
    split at hb
    · rename_i hpos
      simp only [Option.map_eq_some_iff] at hb
      obtain ⟨q, hq, rfl⟩ := hb
      obtain ⟨cs', e1, e2⟩ := fillA_run l vs.toList zs q zv.cells (by simpa using hl) (fun k i x hk => by simpa using hp k i x hk) h2 hq
      refine ⟨.agg cs', ?_, agg_of_cells e2⟩
      simp only [Instr.build, Sem.run_bind, h1, Result.andThen_ok, run_underlying hu, szOf_run (P := P) (t := e) rfl hpos]
      rw [e1]
      rfl
    · cases hb
  · cases hb

/-! ### Lengths -/
def lenA (k : TK) : AV → Option PV
  | .pv (.str s) => match k with | .str => some (.int .i64 s.size) | _ => none
  | .pv (.lst _ _ rows) => match k with | .slice _ _ _ => some (.int .i64 rows.length) | _ => none
  | .sl i off n cap => match k with | .slice _ _ _ => some (.int .i64 n) | _ => none
  | .vs i off n => match k with | .slice _ _ _ => some (.int .i64 n) | _ => none
  | _ => none
/-- Is it a slice that is there? -/
def liveS (h : List ABlk) : AV → Bool
  | .vs i _ _ => match h[i]? with | some (.vec _ _) => true | _ => false
  | .sl i _ _ _ => match h[i]? with | some (.box _) => true | _ => false
  | _ => true
theorem lenA_run {P : Program} {t ty : TypeId} {c : Cx} {h : List ABlk} {w : World} {x : AV} {v : Value} {p : PV} (hx : ARep c h w x v) (hl : liveS h x = true) (hp : lenA (tk P t) x = some p) :
    ∃ u, (Builtin.len_ #[t] ty #[v]).run P w = .ok u w ∧ Rep c.ok w p u := by
  cases x with
  | pv q =>
    cases hx with
    | pv _ _ hr =>
      cases hr with
      | str s =>
        simp only [lenA] at hp
        split at hp
        · rename_i hk; injection hp with hp; subst hp
          exact ⟨_, by simp [Builtin.len_, run_underlying (tk_str hk), goInt], .int _ _⟩
        · cases hp
      | lst full sz rows A cc us h1 h2 h3 h4 h5 h6 =>
        simp only [lenA] at hp
        split at hp
        · rename_i hk; injection hp with hp; subst hp
          exact ⟨_, by simp [Builtin.len_, run_underlying (tk_slice hk).1, goInt], .int _ _⟩
        · cases hp
      | _ => simp [lenA] at hp
  | vs i off n =>
    cases hx with
    | vs _ _ _ _ b ho hi hb hv =>
      simp only [lenA] at hp
      split at hp
      · rename_i hk; injection hp with hp; subst hp
        cases b with
        | vec sz rows => obtain ⟨_, A, rfl, _⟩ := hv _ _ rfl; exact ⟨_, by simp [Builtin.len_, run_underlying (tk_slice hk).1, goInt], .int _ _⟩
        | _ => simp [liveS, hi] at hl
      · cases hp
  | sl i off n cap =>
    cases hx with
    | sl _ _ _ _ _ b ho hi hb hv =>
      simp only [lenA] at hp
      split at hp
      · rename_i hk; injection hp with hp; subst hp
        cases b with
        | box cs => obtain ⟨_, A, rfl, _⟩ := hv _ rfl; exact ⟨_, by simp [Builtin.len_, run_underlying (tk_slice hk).1, goInt], .int _ _⟩
        | _ => simp [liveS, hi] at hl
      · cases hp
  | _ => simp [lenA] at hp

/-! ### A text's byte, an array value's element; a tuple's part -/
def idxA (P : Program) (k : TK) (x : AV) (j : Int) : Option AV :=
  match k with
  | .str => match x with | .pv (.str s) => if 0 ≤ j ∧ j < s.size then some (.pv (.int .u8 (bat s j.toNat))) else none | _ => none
  | .arr n e sz _ => match vcells x with | some xs => if 0 ≤ j ∧ j < n ∧ 0 < sz then loadC (agOf P e) sz xs (j.toNat * sz) else none | none => none
  | _ => none
theorem idxA_run {P : Program} {t : TypeId} {c : Cx} {h : List ABlk} {w : World} {x y : AV} {v : Value} {k : IntKind} {j : Int} (hx : ARep c h w x v) (he : idxA P (tk P t) x j = some y) :
    ∃ u, (Instr.index t v (.int k j)).run P w = .ok u w ∧ ARep c h w y u := by
  unfold idxA at he
  split at he
  · rename_i hk
    split at he
    · rename_i s
      split at he
      · rename_i hj
        injection he with he; subst he
        cases hx with
        | pv _ _ hr =>
          cases hr with
          | str s =>
            have hlt : j.toNat < s.size := by omega
            refine ⟨_, ?_, .pv _ _ (.int _ _)⟩
            have hb : s[j.toNat]? = some (s.data.toList.getD j.toNat 0) := by
              rw [getElem?_pos s j.toNat hlt]
              have : j.toNat < s.data.toList.length := by simpa using hlt
              simp [List.getD_eq_getElem?_getD, List.getElem?_eq_getElem this]
              rfl
            simp only [Instr.index, asIntOf, Sem.run_bind, Sem.run_pure, Result.andThen_ok, run_underlying (tk_str hk), if_pos hj.1, hb]
            rfl
      · cases he
    · cases he
  · rename_i n e sz g hk
    obtain ⟨hu, rfl, _⟩ := tk_arr hk
    split at he
    · rename_i xs hv
      split at he
      · rename_i hj
        obtain ⟨vs, rfl, hl, ho, hr⟩ := vcells_rep hx hv
        obtain ⟨u, h1, h2⟩ := part_run hl ho hr hj.2.2 he
        have hj' : 0 ≤ j ∧ j < (n : Int) := ⟨hj.1, hj.2.1⟩
        exact ⟨u, by simp [Instr.index, asIntOf, run_underlying hu, hj', szOf_run (P := P) (t := e) rfl hj.2.2, h1], h2⟩
      · cases he
    · cases he
  · cases he

def extA (x : AV) (i : Nat) : Option AV :=
  match x with
  | .tup xs => xs[i]?
  | .pv (.tup ps) => (ps[i]?).map .pv
  | _ => none
theorem extA_run {P : Program} {c : Cx} {h : List ABlk} {w : World} {x y : AV} {v : Value} {i : Nat} (hx : ARep c h w x v) (he : extA x i = some y) :
    ∃ u, (Instr.extract v i).run P w = .ok u w ∧ ARep c h w y u := by
  unfold extA at he
  split at he
  · rename_i xs
    cases hx with
    | tup _ vs hl hr =>
      have hlt : i < vs.length := by rw [← hl]; exact (List.getElem?_eq_some_iff.1 he).1
      exact ⟨vs[i], by simp [Instr.extract, hlt], hr i y _ he (List.getElem?_eq_getElem hlt)⟩
  · rename_i ps
    cases hx with
    | pv _ _ hp =>
      cases hp with
      | tup _ vs hl hr =>
        simp only [Option.map_eq_some_iff] at he
        obtain ⟨p, hp, rfl⟩ := he
        have hlt : i < vs.length := by rw [← hl]; exact (List.getElem?_eq_some_iff.1 hp).1
        exact ⟨vs[i], by simp [Instr.extract, hlt], .pv _ _ (hr i p _ hp (List.getElem?_eq_getElem hlt))⟩
  · cases he
end Go.Ab
namespace Go.Ab
open Go.RowKit
set_option linter.unusedVariables false
set_option linter.unusedSimpArgs false

/-- Cells by rows. -/
def chunk (sz : Nat) : Nat → List PV → List (List PV)
  | 0, _ => []
  | n + 1, ps => ps.take sz :: chunk sz n (ps.drop sz)
theorem chunk_length (sz : Nat) : ∀ (n : Nat) (ps : List PV), (chunk sz n ps).length = n
  | 0, _ => rfl
  | n + 1, ps => by simp [chunk, chunk_length sz n]
theorem chunk_get (sz : Nat) : ∀ (n : Nat) (ps : List PV) (j : Nat) (row : List PV), (chunk sz n ps)[j]? = some row → j < n ∧ row = (ps.drop (j * sz)).take sz
  | 0, _, j, row, h => by simp [chunk] at h
  | n + 1, ps, 0, row, h => by simp [chunk] at h; exact ⟨by omega, by simp [h]⟩
  | n + 1, ps, j + 1, row, h => by
    simp only [chunk, List.getElem?_cons_succ] at h
    obtain ⟨h1, h2⟩ := chunk_get sz n _ j row h
    refine ⟨by omega, ?_⟩
    rw [h2, List.drop_drop]
    congr 2
    rw [Nat.add_mul]; omega

def repA (zs : List AV) : Nat → List AV
  | 0 => []
  | n + 1 => zs ++ repA zs n
theorem repA_length (zs : List AV) : ∀ n, (repA zs n).length = n * zs.length
  | 0 => by simp [repA]
  | n + 1 => by simp [repA, repA_length zs n, Nat.add_mul]; omega
theorem repA_get (zs : List AV) (hz : 0 < zs.length) : ∀ (n k : Nat), k < n * zs.length → (repA zs n)[k]? = zs[k % zs.length]?
  | 0, k, h => by omega
  | n + 1, k, h => by
    rw [repA]
    by_cases hk : k < zs.length
    · rw [List.getElem?_append_left hk, Nat.mod_eq_of_lt hk]
    · have hk' : zs.length ≤ k := by omega
      rw [List.getElem?_append_right hk', repA_get zs hz n (k - zs.length) (by rw [Nat.add_mul] at h; omega), ← Nat.mod_eq_sub_mod hk']

/-- A slice literal: how many cells an element has; the rows. -/
def buildS (P : Program) (t : TypeId) (len : Nat) (parts : List (Nat × AV)) : Option PV :=
  match tk P t with
  | .slice e sz _ => match zro P e with
    | some zs => if sz = zs.length ∧ 0 < sz ∧ 0 < len ∧ len * sz ≤ 16777216 then (match fillA (fun i => some (i * sz, sz)) (repA zs len) parts with
      | some xs => match purL xs with | some ps => if ps.length = len * sz then some (.lst true sz (chunk sz len ps)) else none | none => none
      | none => none) else if len = 0 ∧ parts = [] ∧ 0 < sz then some (.lst true sz []) else none
    | none => none
  | _ => none

theorem run_buildSlice0 {P : Program} (w : World) (t e : TypeId) (hu : P.underlying t = some (.slice e)) (hs : 0 < szOf P e) :
    (Instr.buildSlice t 0 #[]).run P w = .ok (.slice (some ⟨w.heap.size, 0, none⟩) 0 0) (w.alloc (.cells #[] e)) := by
  have e0 : ∀ f : Nat → Value, Array.map f (Array.range 0) = #[] := fun f => Array.eq_empty_of_size_eq_zero (by simp)
  simp [Instr.buildSlice, run_underlying hu, szOf_run rfl hs, Instr.fill, newRow, e0]

theorem buildS_run {P : Program} {t : TypeId} {len : Nat} {c : Cx} {h : List ABlk} {w : World} {l : List (Nat × AV)} {vs : Array (Nat × Value)} {p : PV} (hl : l.length = vs.size)
    (hp : ∀ (k : Nat) (i : Nat) (x : AV), l[k]? = some (i, x) → ∃ v, vs[k]? = some (i, v) ∧ ARep c h w x v) (hb : buildS P t len l = some p) (hok : ∀ b, c.ok b → b < w.heap.size) :
    ∃ (cs : Array Value) (e : TypeId) (v : Value), (Instr.buildSlice t len vs).run P w = .ok v (w.alloc (.cells cs e)) ∧ Rep (fun x => c.ok x ∨ x = w.heap.size) (w.alloc (.cells cs e)) p v := by
  unfold buildS at hb
  split at hb
  · rename_i e sz b hk
    obtain ⟨hu, hsz, hby⟩ := tk_slice hk
    split at hb
    · rename_i zs hz
      obtain ⟨zv, hzr, hzc⟩ := zro_rep hz c h w
      split at hb
      · rename_i hc
        obtain ⟨hzl, hpos, hlen, hsmall⟩ := hc
        split at hb
        · rename_i xs hf
          split at hb
          · rename_i ps hps
            split at hb
            · rename_i hpl
              injection hb with hb; subst hb
              obtain ⟨ie, hie⟩ : ∃ i, P.info? e = some i := by
                cases hi : P.info? e with
                | none => simp [szOf, hi] at hsz; omega
                | some i => exact ⟨i, rfl⟩
              have hisz : ie.size = sz := by rw [← hsz]; simp [szOf, hie]
              have hzero : ie.zero = some zv := by
                simp [zeroValue, typeInfo, hie] at hzr
                cases hq : ie.zero with
                | none => simp [hq] at hzr
                | some q => simp [hq] at hzr; rw [hzr]
              have hzs : zv.cells.size = sz := by rw [hzc.1, hzl]
              have hcz : CRep c h w (repA zs len) ((Array.range (len * sz)).map (zv.cells[· % zv.cells.size]!)) := by
                refine ⟨by simp [repA_length, hzl], fun k x hk => ?_⟩
                have hkl : k < len * sz := by have := (List.getElem?_eq_some_iff.1 hk).1; rw [repA_length, ← hzl] at this; exact this
                rw [repA_get zs (by omega) len k (by rw [← hzl]; exact hkl)] at hk
                obtain ⟨u, u1, u2, u3⟩ := hzc.2 _ x hk
                refine ⟨u, ?_, u2, u3⟩
                rw [hzc.1]
                simp only [Array.getElem?_map, Array.getElem?_range, hkl, if_true, Option.map_some]
                have hlt : k % zs.length < zv.cells.size := by rw [hzs, ← hzl]; exact Nat.mod_lt _ (by omega)
                rw [Array.getElem?_eq_getElem hlt] at u1
                injection u1 with u1
                rw [getElem!_pos zv.cells (k % zs.length) hlt, u1]
              obtain ⟨cs, f1, f2⟩ := fillA_run l vs.toList (repA zs len) xs _ (by simpa using hl) (fun k i x hk => by simpa using hp k i x hk) hcz hf
              refine ⟨cs, e, .slice (some ⟨w.heap.size, 0, none⟩) len len, run_buildSlice w t e len vs cs ie zv hu hie hzero (by rw [hisz]; omega) (by rw [hisz]; have := Nat.mul_pos hlen hpos; omega) (by rw [hisz]; exact f1), ?_⟩
              obtain ⟨g1, g2⟩ := purL_get hps
              have hcl : (chunk sz len ps).length = len := chunk_length _ _ _
              have hrow : ∀ (j : Nat) (row : List PV) (k : Nat) (q : PV), (chunk sz len ps)[j]? = some row → row[k]? = some q → ∃ u, cs[j * sz + k]? = some u ∧ u.oneCell' = true ∧ Rep c.ok w q u := by
                intro j row k q hj hkq
                obtain ⟨hjn, rfl⟩ := chunk_get sz len ps j row hj
                have hk : k < sz := by have := (List.getElem?_eq_some_iff.1 hkq).1; simp at this; omega
                rw [List.getElem?_take_of_lt hk, List.getElem?_drop] at hkq
                obtain ⟨x, hx, hpx⟩ := g2 _ q hkq
                obtain ⟨u, u1, u2, u3⟩ := f2.2 _ x hx
                exact ⟨u, u1, u2, u3.pur hpx⟩
              have := Rep.lst (ok := fun x => c.ok x ∨ x = w.heap.size) (w := w.alloc (.cells cs e)) true sz (chunk sz len ps) (some ⟨w.heap.size, 0, none⟩) len (fun j k => (cs[j * sz + k]?).getD undef)
                (fun j row hj => by
                  obtain ⟨hjn, rfl⟩ := chunk_get sz len ps j row hj
                  have : (j + 1) * sz ≤ len * sz := Nat.mul_le_mul_right _ (by omega)
                  rw [Nat.add_mul] at this
                  simp; omega) (by rw [hcl]; exact Nat.le_refl _) (fun _ => hcl.symm) (fun _ => ⟨_, rfl⟩)
                (fun ad ea j row k q hj hkq => by
                  injection ea with ea; subst ea
                  obtain ⟨u, u1, u2, u3⟩ := hrow j row k q hj hkq
                  refine ⟨.inr rfl, ?_, by rw [u1]; exact u2⟩
                  rw [Addr.add_plain]
                  simp only [World.cell?, heap_alloc_new, Nat.zero_add, u1, Option.getD_some]
                  rfl)
                (fun j row k q hj hkq => by
                  obtain ⟨u, u1, u2, u3⟩ := hrow j row k q hj hkq
                  simp only [u1, Option.getD_some]
                  exact u3.mono (fun b hb => .inl hb) (keep_alloc c.ok w _ hok))
              rw [hcl] at this
              exact this
            · cases hb
          · cases hb
        · cases hb
      · split at hb
        · rename_i h0
          obtain ⟨rfl, rfl, hpos⟩ := h0
          injection hb with hb; subst hb
          have hv : vs = #[] := Array.eq_empty_of_size_eq_zero (by simpa using hl.symm)
          subst hv
          exact ⟨#[], e, _, run_buildSlice0 w t e hu (by omega), .lst true sz [] _ 0 (fun _ _ => undef) (fun j row h => by simp at h) (Nat.le_refl _) (fun _ => rfl) (fun h => by simp at h) (fun ad ea j row k p h => by simp at h) (fun j row k p h => by simp at h)⟩
        · cases hb
    · cases hb
  · cases hb
end Go.Ab
namespace Go.Ab
open Go.RowKit
set_option linter.unusedVariables false
set_option linter.unusedSimpArgs false

/-- Cells, row by row. -/
def cellsR (us : Nat → Nat → Value) (sz n : Nat) : List Value := (List.range (n * sz)).map fun q => us (q / sz) (q % sz)
theorem cellsR_length (us : Nat → Nat → Value) (sz n : Nat) : (cellsR us sz n).length = n * sz := by simp [cellsR]
theorem cellsR_get (us : Nat → Nat → Value) (sz n q : Nat) (h : q < n * sz) : (cellsR us sz n)[q]? = some (us (q / sz) (q % sz)) := by simp [cellsR, h]
theorem cellsR_at (us : Nat → Nat → Value) {sz n j k : Nat} (hj : j < n) (hk : k < sz) : (cellsR us sz n)[j * sz + k]? = some (us j k) := by
  have h : j * sz + k < n * sz := by
    have : (j + 1) * sz ≤ n * sz := Nat.mul_le_mul_right _ hj
    rw [Nat.add_mul] at this; omega
  rw [cellsR_get us sz n _ h, Nat.mul_comm j sz, Nat.mul_add_div (by omega), Nat.div_eq_of_lt hk, Nat.mul_add_mod, Nat.mod_eq_of_lt hk]
  simp
theorem cellsR_mem {us : Nat → Nat → Value} {sz n : Nat} {v : Value} (h : v ∈ cellsR us sz n) : ∃ j k, j < n ∧ k < sz ∧ v = us j k := by
  simp only [cellsR, List.mem_map, List.mem_range] at h
  obtain ⟨q, hq, rfl⟩ := h
  have hs : 0 < sz := by
    rcases Nat.eq_zero_or_pos sz with h | h
    · subst h; simp at hq
    · exact h
  exact ⟨q / sz, q % sz, (Nat.div_lt_iff_lt_mul hs).2 hq, Nat.mod_lt _ hs, rfl⟩

/-- Rows whose cells are those. -/
def RowsAs (ok : Nat → Prop) (w : World) (sz : Nat) (rows : List (List PV)) (us : Nat → Nat → Value) : Prop :=
  (∀ (j : Nat) (row : List PV), rows[j]? = some row → row.length = sz) ∧ ∀ (j : Nat) (row : List PV) (k : Nat) (p : PV), rows[j]? = some row → row[k]? = some p → (us j k).oneCell' = true ∧ Rep ok w p (us j k)
theorem RowsAs.one {ok : Nat → Prop} {w : World} {sz : Nat} {rows : List (List PV)} {us : Nat → Nat → Value} (h : RowsAs ok w sz rows us) {u : Value} (hu : u ∈ cellsR us sz rows.length) : u.oneCell' = true := by
  obtain ⟨j, k, hj, hk, rfl⟩ := cellsR_mem hu
  have hl := h.1 j _ (List.getElem?_eq_getElem hj)
  exact (h.2 j _ k _ (List.getElem?_eq_getElem hj) (List.getElem?_eq_getElem (by omega))).1

/-- The rows that are appended. -/
def yRows (h : List ABlk) (tk : TK) (sz : Nat) : AV → Option (List (List PV))
  | .pv (.lst _ sz' rows) => match tk with | .slice _ _ _ => if sz' = sz then some rows else (match rows with | [] => some [] | _ :: _ => none) | _ => none
  | .vs i off n => match tk with | .slice _ _ _ => (match h[i]? with | some (.vec sz' rows) => if sz' = sz then some ((rows.drop off).take n) else none | _ => none) | _ => none
  | .pv (.str s) => match tk with | .str => if sz = 1 then some (s.data.toList.map fun b => [.int .u8 b.toNat]) else none | _ => none
  | _ => none

theorem rep_src {P : Program} {tx e' : TypeId} {ok : Nat → Prop} {w : World} {full : Bool} {sz : Nat} {rows : List (List PV)} {v : Value} (hk : P.underlying tx = some (.slice e')) (hs : 0 < sz) (h : Rep ok w (.lst full sz rows) v) :
    ∃ us, RowsAs ok w sz rows us ∧ Src P sz tx v rows.length (cellsR us sz rows.length) w := by
  cases h with
  | lst _ _ _ A c us hlen hc hf hA hcell hrep =>
    cases A with
    | none =>
      have h0 : rows = [] := by
        cases rows with
        | nil => rfl
        | cons r rows => obtain ⟨ad, e⟩ := hA (by simp); cases e
      subst h0
      exact ⟨us, ⟨fun j row h => by simp at h, fun j row k p h => by simp at h⟩, by simpa [cellsR] using Src.ofNil w hk c⟩
    | some ad =>
      have R : RowsAs ok w sz rows us := ⟨hlen, fun j row k p hj hkp => ⟨(hcell ad rfl j row k p hj hkp).2.2, hrep j row k p hj hkp⟩⟩
      refine ⟨us, R, Src.ofSlice w hk ad rows.length c _ (cellsR_length _ _ _) (fun q u hq => ?_) fun u hu => R.one hu⟩
      have hlt : q < rows.length * sz := by have := (List.getElem?_eq_some_iff.1 hq).1; rwa [cellsR_length] at this
      rw [cellsR_get us sz _ q hlt] at hq
      injection hq with hq; subst hq
      have hj : q / sz < rows.length := (Nat.div_lt_iff_lt_mul hs).2 hlt
      have hl := hlen _ _ (List.getElem?_eq_getElem hj)
      have := (hcell ad rfl (q / sz) _ (q % sz) _ (List.getElem?_eq_getElem hj) (List.getElem?_eq_getElem (by rw [hl]; exact Nat.mod_lt _ hs))).2.1
      rw [Nat.div_add_mod'] at this
      exact this

theorem Sub0 {ok : Nat → Prop} {w : World} {full : Bool} {sz sz' : Nat} {v : Value} (h : Rep ok w (.lst full sz []) v) : Rep ok w (.lst full sz' []) v := by
  cases h with
  | lst _ _ _ A c us h1 h2 h3 h4 h5 h6 => exact .lst full sz' [] A c us (fun j row h => by simp at h) h2 h3 h4 (fun ad e j row k p h => by simp at h) (fun j row k p h => by simp at h)
theorem src_empty {P : Program} {tx e' : TypeId} {w : World} {sz : Nat} (hk : P.underlying tx = some (.slice e')) (A : Option Addr) (cap : Nat) : Src P sz tx (.slice A 0 cap) 0 [] w := by
  cases A with
  | none => exact Src.ofNil w hk cap
  | some a => exact Src.ofSlice w hk a 0 cap [] (by simp) (fun j u h => by simp at h) (fun u h => by cases h)

theorem yRows_src {P : Program} {tx : TypeId} {z : Ini} {c : Cx} {h : List ABlk} {w : World} (s : MSim z h c w) {y : AV} {v : Value} {sz : Nat} {rows : List (List PV)} (hx : ARep c h w y v) (hy : yRows h (tk P tx) sz y = some rows) (hs : 0 < sz) :
    ∃ us, RowsAs c.ok w sz rows us ∧ Src P sz tx v rows.length (cellsR us sz rows.length) w := by
  cases hx with
  | pv p _ hr =>
    cases p with
    | lst full sz' rows' =>
      simp only [yRows] at hy
      split at hy
      · rename_i e q b hk
        obtain ⟨hu, _, _⟩ := tk_slice hk
        split at hy
        · rename_i he; subst he
          injection hy with hy; subst hy
          exact rep_src hu hs hr
        · split at hy
          · injection hy with hy; subst hy
            have : Rep c.ok w (.lst full sz []) v := Sub0 hr
            exact rep_src hu hs this
          · cases hy
      · cases hy
    | str st =>
      simp only [yRows] at hy
      split at hy
      · rename_i hk
        have hu := tk_str hk
        split at hy
        · rename_i h1; subst h1
          injection hy with hy; subst hy
          cases hr
          have hlen : (st.data.toList.map fun b => [PV.int .u8 (b.toNat : Int)]).length = st.size := by rw [List.length_map, Array.length_toList]; rfl
          rw [hlen]
          have hget : ∀ j : Nat, (byteCells st)[j]? = (st.data.toList[j]?).map (fun b : UInt8 => Value.int .u8 b.toNat) := fun j => by rw [byteCells, List.getElem?_map]
          have e : cellsR (fun j _ => (byteCells st).getD j undef) 1 st.size = byteCells st := by
            apply List.ext_getElem?
            intro q
            by_cases hq : q < st.size
            · rw [cellsR_get _ 1 _ q (by omega), Nat.div_one, List.getD_eq_getElem?_getD]
              have : q < (byteCells st).length := by rw [byteCells_length]; exact hq
              rw [List.getElem?_eq_getElem this]; rfl
            · rw [List.getElem?_eq_none (by rw [cellsR_length]; omega), List.getElem?_eq_none (by rw [byteCells_length]; omega)]
          refine ⟨fun j _ => (byteCells st).getD j undef, ⟨fun j row hj => ?_, fun j row k p hj hk => ?_⟩, by rw [e]; exact Src.ofString w hu st⟩
          · simp only [List.getElem?_map, Option.map_eq_some_iff] at hj
            obtain ⟨b, _, rfl⟩ := hj; rfl
          · simp only [List.getElem?_map, Option.map_eq_some_iff] at hj
            obtain ⟨b, hb, rfl⟩ := hj
            cases k with
            | zero =>
              simp at hk; subst hk
              simp only [List.getD_eq_getElem?_getD, hget, hb, Option.map_some, Option.getD_some]
              exact ⟨rfl, .int _ _⟩
            | succ k => simp at hk
        · cases hy
      · cases hy
    | _ => simp [yRows] at hy
  | vs i off n v b ho hi hb hv =>
    simp only [yRows, hi] at hy
    split at hy
    · rename_i e q b' hk
      obtain ⟨hu, _, _⟩ := tk_slice hk
      split at hy
      · rename_i sz' rows' heq
        injection heq with heq; subst heq
        split at hy
        · rename_i he; subst he
          injection hy with hy; subst hy
          obtain ⟨h1, A, rfl, h3⟩ := hv _ _ rfl
          obtain ⟨b1, b2, b3⟩ := s.hs.blk i _ hi
          have hlen : ((rows'.drop off).take n).length = n := by simp; omega
          rw [hlen]
          by_cases hn : n = 0
          · subst hn
            refine ⟨fun _ _ => undef, ⟨fun j row h => by simp at h, fun j row k p h => by simp at h⟩, ?_⟩
            have : cellsR (fun _ _ => undef) sz' 0 = [] := by simp [cellsR]
            rw [this]
            exact src_empty hu A _
          · obtain ⟨vs, ty, g1, g2, g3⟩ := b3 (by omega)
            obtain rfl := h3 (by omega)
            have hrow : ∀ (j : Nat) (row : List PV), ((rows'.drop off).take n)[j]? = some row → j < n ∧ rows'[off + j]? = some row := by
              intro j row hj
              have hjn : j < n := by rw [← hlen]; exact (List.getElem?_eq_some_iff.1 hj).1
              rw [List.getElem?_take_of_lt hjn, List.getElem?_drop] at hj
              exact ⟨hjn, hj⟩
            have R : RowsAs c.ok w sz' ((rows'.drop off).take n) (fun j k => (vs[(c.vd i).1 + ((off + j) * sz' + k)]?).getD undef) := ⟨fun j row hj => b2 _ row (hrow j row hj).2, fun j row k p hj hkp => by
              obtain ⟨u, u1, u2, u3⟩ := g3 _ row k p (hrow j row hj).2 hkp
              simp only [u1, Option.getD_some]; exact ⟨u2, u3⟩⟩
            refine ⟨_, R, Src.ofSlice w hu _ n _ _ (cellsR_length _ _ _) (fun q u hq => ?_) fun u hu => by
              rw [← hlen] at hu
              exact R.one hu⟩
            have hlt : q < n * sz' := by have := (List.getElem?_eq_some_iff.1 hq).1; rwa [cellsR_length] at this
            rw [cellsR_get _ sz' _ q hlt] at hq
            injection hq with hq; subst hq
            have hj : q / sz' < n := (Nat.div_lt_iff_lt_mul hs).2 hlt
            have hj' : off + q / sz' < rows'.length := by omega
            have hl := b2 _ _ (List.getElem?_eq_getElem hj')
            obtain ⟨u, u1, _, _⟩ := g3 _ _ (q % sz') _ (List.getElem?_eq_getElem hj') (List.getElem?_eq_getElem (by rw [hl]; exact Nat.mod_lt _ hs))
            rw [Addr.add_plain]
            have e : (c.vd i).1 + off * sz' + q = (c.vd i).1 + ((off + q / sz') * sz' + q % sz') := by
              have := Nat.div_add_mod' q sz'
              rw [Nat.add_mul]; omega
            simp only [World.cell?, g1, e, u1, Option.getD_some]
            rfl
        · cases hy
      · cases hy
    · cases hy
  | _ => simp [yRows] at hy
end Go.Ab
namespace Go.Ab
open Go.RowKit
set_option linter.unusedVariables false
set_option linter.unusedSimpArgs false

/-- A name for a block that nobody else has. -/
theorem MSim.take {z : Ini} {h : List ABlk} {c : Cx} {w w' : World} (s : MSim z h c w) {n g : Nat} {vd : Nat × Nat} {b : ABlk} (hu : unborn h n) (hn : z.n ≤ n)
    (hL : lv (c.born n g vd) (setx h n b) n → (z.O g ∨ z.w.heap.size ≤ g) ∧ ¬ c.ok g ∧ ∀ j, lv c h j → c.mu j ≠ g)
    (h1 : w'.os = w.os) (h2 : w'.tape = w.tape) (h3 : w'.output = w.output) (h4 : w.heap.size ≤ w'.heap.size)
    (h5 : ∀ x, x < w.heap.size → (lv (c.born n g vd) (setx h n b) n → x ≠ g) → w'.heap[x]? = w.heap[x]?)
    (hb : Later c h w (c.born n g vd) (setx h n b) w' → BRep (c.born n g vd) (setx h n b) w' n b) : Later c h w (c.born n g vd) (setx h n b) w' ∧ MSim z (setx h n b) (c.born n g vd) w' := by
  have hm : ∀ j, j ≠ n → (c.born n g vd).mu j = c.mu j ∧ (c.born n g vd).vd j = c.vd j := c.born_other n g vd
  have hk : Keep c.ok w w' := fun x hx => h5 x (s.hs.okb x hx) (fun l e => (hL l).2.1 (e ▸ hx))
  have L : Later c h w (c.born n g vd) (setx h n b) w' := later_born hu (fun _ h => h) hk hm
  have lvo : ∀ j, j ≠ n → (lv (c.born n g vd) (setx h n b) j ↔ lv c h j) := fun j hj => lv_setx_other hj (hm j hj).2
  refine ⟨L, ⟨h1.trans s.fr.os, h2.trans s.fr.tape, h3.trans s.fr.output, Nat.le_trans s.fr.size h4, fun x hx hO => ?_⟩, ⟨fun j x hj => ?_, fun j k lj lk e => ?_, fun j lj => ?_, fun x hx => Nat.lt_of_lt_of_le (s.hs.okb x hx) h4⟩, fun j lj => ?_, s.okn, s.okm, Nat.le_trans s.ext.1 (setx_length _ _ _), fun j hj => ?_⟩
  · rw [h5 x (Nat.lt_of_lt_of_le hx s.fr.size) (fun l e => ?_), s.fr.block x hx hO]
    subst e
    rcases (hL l).1 with h | h
    · exact hO h
    · omega
  · rcases setx_get hj with ⟨rfl, rfl⟩ | ⟨hne, hj' | rfl⟩
    · exact hb L
    · exact (s.hs.blk j x hj').later L (fun _ => hm j hne) (fun l => h5 _ (s.hs.lv_lt l) (fun ln e => (hL ln).2.2 j l e)) hj'
    · trivial
  · by_cases e1 : j = n <;> by_cases e2 : k = n
    · rw [e1, e2]
    · subst e1
      rw [Cx.born_mu, (hm k e2).1] at e
      exact ((hL lj).2.2 k ((lvo k e2).1 lk) e.symm).elim
    · subst e2
      rw [Cx.born_mu, (hm j e1).1] at e
      exact ((hL lk).2.2 j ((lvo j e1).1 lj) e).elim
    · rw [(hm j e1).1, (hm k e2).1] at e
      exact s.hs.inj j k ((lvo j e1).1 lj) ((lvo k e2).1 lk) e
  · by_cases e1 : j = n
    · subst e1; rw [Cx.born_mu]; exact (hL lj).2.1
    · rw [(hm j e1).1]; exact s.hs.nok j ((lvo j e1).1 lj)
  · by_cases e1 : j = n
    · subst e1; rw [Cx.born_mu]; exact (hL lj).1
    · rw [(hm j e1).1]; exact s.own j ((lvo j e1).1 lj)
  · have : j ≠ n := by omega
    exact ⟨(hm j this).1.trans (s.ext.2 j hj).1, (hm j this).2.trans (s.ext.2 j hj).2⟩

theorem run_append_room_at {P : Program} {w : World} (t tx ty e : TypeId) (i : TypeInfo) (ht : P.underlying t = some (.slice e)) (hi : P.info? e = some i) (b off sLen sCap : Nat) (x : Value) (n : Nat) (news : List Value) (hs : Src P i.size tx x n news w)
    (hroom : sLen + n ≤ sCap) {cur : Array Value} {te : TypeId} (hg : w.heap[b]? = some (.cells cur te (0, 0))) (hl : off + sLen * i.size + news.length ≤ cur.size) :
    (Builtin.append_ #[t, tx] ty #[.slice (some ⟨b, off, none⟩) sLen sCap, x]).run P w = .ok (.slice (some ⟨b, off, none⟩) (sLen + n) sCap) (w.setRow b (cur.toList.take (off + sLen * i.size) ++ news ++ cur.toList.drop (off + sLen * i.size + news.length)).toArray) := by
  have hst := run_storeCells_at (P := P) b (off + sLen * i.size) te news 0 cur w hg (by simpa using hl) hs.one
  simp only [Nat.add_zero] at hst
  rcases hs.kind with ⟨e', hk⟩ | hk <;> simp [Builtin.append_, run_underlying ht, run_underlying hk, sizeOf, typeInfo, hi, hs.len, hroom, hs.cells, Addr.add_plain, hst]

/-- The slice that is appended to: the call's own one, or one that has no room. -/
def xOwn (h : List ABlk) (sz : Nat) : AV → Option (Option Nat × List (List PV))
  | .pv (.lst true sz' rows) => if sz' = sz then some (none, rows) else (match rows with | [] => some (none, []) | _ :: _ => none)
  | .vs i off n => if off = 0 then (match h[i]? with | some (.vec sz' rows) => if sz' = sz ∧ n = rows.length then some (some i, rows) else none | _ => none) else none
  | _ => none
/-- 'append': a new name for the slice; the old one is given up. -/
def appA (P : Program) (n : Nat) (h : List ABlk) (T Tx : TypeId) (x y : AV) : Option (AV × List (Nat × ABlk)) :=
  match tk P T with
  | .slice e sz by' => match zro P e, xOwn h sz x, yRows h (tk P Tx) sz y with
    | some zs, some (o, rows), some rows2 => if 0 < sz ∧ zs.length = sz ∧ (rows.length + rows2.length) * by' ≤ 140737488355328 ∧ rows.length + rows2.length ≤ 140737488355328 then
        (match o, rows2 with
        | some i, rows2 => if i < n then some (.vs n 0 (rows.length + rows2.length), [(i, .gone), (n, .vec sz (rows ++ rows2))]) else none
        | none, rows2 => if (rows2.isEmpty && !rows.isEmpty) = true then none else some (.vs n 0 (rows.length + rows2.length), [(n, .vec sz (rows ++ rows2))])) else none
    | _, _, _ => none
  | _ => none

theorem rows_append {ok : Nat → Prop} {w : World} {sz : Nat} {rows rows2 : List (List PV)} {us us2 : Nat → Nat → Value} (h1 : RowsAs ok w sz rows us) (h2 : RowsAs ok w sz rows2 us2) :
    RowsAs ok w sz (rows ++ rows2) (fun j k => if j < rows.length then us j k else us2 (j - rows.length) k) := by
  refine ⟨fun j row hj => ?_, fun j row k p hj hk => ?_⟩
  · by_cases h : j < rows.length
    · rw [List.getElem?_append_left h] at hj; exact h1.1 j row hj
    · rw [List.getElem?_append_right (by omega)] at hj; exact h2.1 _ row hj
  · by_cases h : j < rows.length
    · rw [List.getElem?_append_left h] at hj; simp only [if_pos h]; exact h1.2 j row k p hj hk
    · rw [List.getElem?_append_right (by omega)] at hj; simp only [if_neg h]; exact h2.2 _ row k p hj hk
theorem cells_append {us us2 : Nat → Nat → Value} {sz n m : Nat} {j k : Nat} (hj : j < n + m) (hk : k < sz) :
    (cellsR us sz n ++ cellsR us2 sz m)[j * sz + k]? = some (if j < n then us j k else us2 (j - n) k) := by
  by_cases h : j < n
  · have hlt : j * sz + k < n * sz := by
      have : (j + 1) * sz ≤ n * sz := Nat.mul_le_mul_right _ h
      rw [Nat.add_mul] at this; omega
    rw [List.getElem?_append_left (by rw [cellsR_length]; exact hlt), cellsR_at us h hk, if_pos h]
  · have hge : n * sz ≤ j * sz := Nat.mul_le_mul_right _ (by omega)
    have e : j * sz + k - n * sz = (j - n) * sz + k := by rw [Nat.sub_mul]; omega
    rw [List.getElem?_append_right (by rw [cellsR_length]; omega), cellsR_length, e, cellsR_at us2 (by omega) hk, if_neg h]
theorem RowsAs.mono {ok ok' : Nat → Prop} {w w' : World} {sz : Nat} {rows : List (List PV)} {us : Nat → Nat → Value} (h : RowsAs ok w sz rows us) (h1 : ∀ b, ok b → ok' b) (h2 : Keep ok w w') : RowsAs ok' w' sz rows us :=
  ⟨h.1, fun j row k p hj hk => ⟨(h.2 j row k p hj hk).1, (h.2 j row k p hj hk).2.mono h1 h2⟩⟩
end Go.Ab
namespace Go.Ab
open Go.RowKit
set_option linter.unusedVariables false
set_option linter.unusedSimpArgs false

section
variable {P : Program} {z : Ini} {c : Cx} {h : List ABlk} {w : World} {n sz : Nat} {rows rows2 : List (List PV)} {us us2 : Nat → Nat → Value}

theorem app_grow (s : MSim z h c w) (hu : unborn h n) (hn : z.n ≤ n) (R : RowsAs c.ok w sz rows us) (R2 : RowsAs c.ok w sz rows2 us2) {G : Nat} (hG : rows.length + rows2.length ≤ G) {zs : Array Value} (hz : zs.size = (G - (rows.length + rows2.length)) * sz) (e : TypeId) :
    ∃ c', Later c h w c' (setx h n (.vec sz (rows ++ rows2))) (w.drew.alloc (.cells ((cellsR us sz rows.length ++ cellsR us2 sz rows2.length).toArray ++ zs) e)) ∧
      MSim z (setx h n (.vec sz (rows ++ rows2))) c' (w.drew.alloc (.cells ((cellsR us sz rows.length ++ cellsR us2 sz rows2.length).toArray ++ zs) e)) ∧
      ARep c' (setx h n (.vec sz (rows ++ rows2))) (w.drew.alloc (.cells ((cellsR us sz rows.length ++ cellsR us2 sz rows2.length).toArray ++ zs) e)) (.vs n 0 (rows.length + rows2.length)) (.slice (some ⟨w.heap.size, 0, none⟩) (rows.length + rows2.length) G) := by
  have sd : MSim z h c w.drew := s.same rfl rfl rfl rfl
  have Ld : Later c h w c h w.drew := Later.same c h rfl
  have hl := rows_append R R2
  have hb : BRep (c.born n w.drew.heap.size (0, G)) (setx h n (.vec sz (rows ++ rows2))) (w.drew.alloc (.cells ((cellsR us sz rows.length ++ cellsR us2 sz rows2.length).toArray ++ zs) e)) n (.vec sz (rows ++ rows2)) := by
    refine ⟨by rw [Cx.born_vd]; simpa using hG, hl.1, fun _ => ⟨_, e, by rw [Cx.born_mu]; exact heap_alloc_new _ _, ?_, fun j row k p hj hk => ?_⟩⟩
    · rw [Cx.born_vd]
      simp only [Array.size_append, List.size_toArray, List.length_append, cellsR_length, hz]
      have h1 : rows.length * sz + rows2.length * sz = (rows.length + rows2.length) * sz := by rw [Nat.add_mul]
      have h2 : (rows.length + rows2.length) * sz + (G - (rows.length + rows2.length)) * sz = G * sz := by rw [← Nat.add_mul]; congr 1; omega
      omega
    · have hjl : j < rows.length + rows2.length := by have := (List.getElem?_eq_some_iff.1 hj).1; simpa using this
      have hkl : k < sz := by rw [← hl.1 j row hj]; exact (List.getElem?_eq_some_iff.1 hk).1
      obtain ⟨g1, g2⟩ := hl.2 j row k p hj hk
      have hget := cells_append (us := us) (us2 := us2) hjl hkl
      have hlt : j * sz + k < (cellsR us sz rows.length ++ cellsR us2 sz rows2.length).length := (List.getElem?_eq_some_iff.1 hget).1
      refine ⟨_, ?_, g1, (g2.mono (fun b hb => hb) Ld.keep).mono (fun b hb => hb) (keep_alloc c.ok _ _ sd.hs.okb)⟩
      rw [Cx.born_vd]
      simp only [Nat.zero_add]
      rw [Array.getElem?_append_left (by simpa using hlt), List.getElem?_toArray]
      exact hget
  obtain ⟨L, M⟩ := sd.born n hu hn (.vec sz (rows ++ rows2)) (0, G) (.cells ((cellsR us sz rows.length ++ cellsR us2 sz rows2.length).toArray ++ zs) e) hb
  refine ⟨_, Ld.trans L, M, .vs n 0 _ _ (.vec sz (rows ++ rows2)) rfl (setx_same _ _ _) (by intro h; cases h) fun sz' rows' e' => ?_⟩
  injection e' with e1 e2; subst e1; subst e2
  refine ⟨by simp, some ⟨w.heap.size, 0, none⟩, by rw [Cx.born_vd]; simp, fun _ => ?_⟩
  rw [Cx.born_mu, Cx.born_vd]
  simp

theorem app_room (s : MSim z h c w) (hu : unborn h n) (hn : z.n ≤ n) (R : RowsAs c.ok w sz rows us) (R2 : RowsAs c.ok w sz rows2 us2) {g : Nat} {vd : Nat × Nat} (hO : z.O g ∨ z.w.heap.size ≤ g) (hok : ¬ c.ok g) (hinj : ∀ j, lv c h j → c.mu j ≠ g)
    {vs : Array Value} {te : TypeId} (hg : w.heap[g]? = some (.cells vs te (0, 0))) (hsz : vs.size = vd.1 + vd.2 * sz) (hroom : rows.length + rows2.length ≤ vd.2)
    (hold : ∀ (j k : Nat), j < rows.length → k < sz → vs[vd.1 + (j * sz + k)]? = some (us j k)) :
    ∃ c', Later c h w c' (setx h n (.vec sz (rows ++ rows2))) (w.setRow g (vs.toList.take (vd.1 + rows.length * sz) ++ cellsR us2 sz rows2.length ++ vs.toList.drop (vd.1 + rows.length * sz + (cellsR us2 sz rows2.length).length)).toArray) ∧
      MSim z (setx h n (.vec sz (rows ++ rows2))) c' (w.setRow g (vs.toList.take (vd.1 + rows.length * sz) ++ cellsR us2 sz rows2.length ++ vs.toList.drop (vd.1 + rows.length * sz + (cellsR us2 sz rows2.length).length)).toArray) ∧
      ARep c' (setx h n (.vec sz (rows ++ rows2))) (w.setRow g (vs.toList.take (vd.1 + rows.length * sz) ++ cellsR us2 sz rows2.length ++ vs.toList.drop (vd.1 + rows.length * sz + (cellsR us2 sz rows2.length).length)).toArray) (.vs n 0 (rows.length + rows2.length)) (.slice (some ⟨g, vd.1, none⟩) (rows.length + rows2.length) vd.2) := by
  have hl := rows_append R R2
  have hle : vd.1 + rows.length * sz + (cellsR us2 sz rows2.length).length ≤ vs.size := by
    rw [cellsR_length, hsz]
    have : (rows.length + rows2.length) * sz ≤ vd.2 * sz := Nat.mul_le_mul_right _ hroom
    rw [Nat.add_mul] at this; omega
  have hb : Later c h w (c.born n g vd) (setx h n (.vec sz (rows ++ rows2))) (w.setRow g (vs.toList.take (vd.1 + rows.length * sz) ++ cellsR us2 sz rows2.length ++ vs.toList.drop (vd.1 + rows.length * sz + (cellsR us2 sz rows2.length).length)).toArray) → BRep (c.born n g vd) (setx h n (.vec sz (rows ++ rows2))) (w.setRow g (vs.toList.take (vd.1 + rows.length * sz) ++ cellsR us2 sz rows2.length ++ vs.toList.drop (vd.1 + rows.length * sz + (cellsR us2 sz rows2.length).length)).toArray) n (.vec sz (rows ++ rows2)) := by
    intro L
    refine ⟨by rw [Cx.born_vd]; simpa using hroom, hl.1, fun _ => ⟨_, te, by rw [Cx.born_mu]; exact setRow_heap _ _ _ _ _ _ hg, ?_, fun j row k p hj hk => ?_⟩⟩
    · rw [Cx.born_vd, (arr_splice_get hle 0).2, hsz]
    · have hjl : j < rows.length + rows2.length := by have := (List.getElem?_eq_some_iff.1 hj).1; simpa using this
      have hkl : k < sz := by rw [← hl.1 j row hj]; exact (List.getElem?_eq_some_iff.1 hk).1
      obtain ⟨g1, g2⟩ := hl.2 j row k p hj hk
      refine ⟨if j < rows.length then us j k else us2 (j - rows.length) k, ?_, g1, g2.mono L.okm L.keep⟩
      rw [Cx.born_vd, (arr_splice_get hle _).1]
      by_cases hjr : j < rows.length
      · have : j * sz + k < rows.length * sz := by
          have : (j + 1) * sz ≤ rows.length * sz := Nat.mul_le_mul_right _ hjr
          rw [Nat.add_mul] at this; omega
        rw [if_neg (by omega), if_pos hjr]
        exact hold j k hjr hkl
      · have hge : rows.length * sz ≤ j * sz := Nat.mul_le_mul_right _ (by omega)
        have hlt : j * sz + k < (rows.length + rows2.length) * sz := by
          have : (j + 1) * sz ≤ (rows.length + rows2.length) * sz := Nat.mul_le_mul_right _ hjl
          rw [Nat.add_mul] at this; omega
        rw [Nat.add_mul] at hlt
        rw [if_pos (by rw [cellsR_length]; omega), if_neg hjr]
        have e : vd.1 + (j * sz + k) - (vd.1 + rows.length * sz) = (j - rows.length) * sz + k := by rw [Nat.sub_mul]; omega
        rw [e]
        exact cellsR_at us2 (by omega) hkl
  obtain ⟨L, M⟩ := s.take (w' := w.setRow g (vs.toList.take (vd.1 + rows.length * sz) ++ cellsR us2 sz rows2.length ++ vs.toList.drop (vd.1 + rows.length * sz + (cellsR us2 sz rows2.length).length)).toArray) (g := g) (vd := vd) (b := .vec sz (rows ++ rows2)) hu hn (fun _ => ⟨hO, hok, hinj⟩) rfl rfl rfl (by simp [setRow_size]) (fun x hx hne => by
      by_cases hlv : lv (c.born n g vd) (setx h n (.vec sz (rows ++ rows2))) n
      · exact setRow_other _ _ _ _ (hne hlv)
      · have hz : vd.2 = 0 := by
          have : ¬ 0 < vd.2 := fun h0 => hlv (by simp [lv, setx_same, Cx.born_vd, h0])
          omega
        have r0 : rows.length = 0 := by omega
        have r2 : rows2.length = 0 := by omega
        by_cases hxg : x = g
        · subst hxg
          rw [setRow_heap _ _ _ _ _ _ hg, hg]
          simp [r0, r2, cellsR]
        · exact setRow_other _ _ _ _ hxg) hb
  refine ⟨_, L, M, .vs n 0 _ _ (.vec sz (rows ++ rows2)) rfl (setx_same _ _ _) (by intro h; cases h) fun sz' rows' e' => ?_⟩
  injection e' with e1 e2; subst e1; subst e2
  exact ⟨by simp, some ⟨g, vd.1, none⟩, by rw [Cx.born_vd]; simp, fun _ => by rw [Cx.born_mu, Cx.born_vd]; simp⟩
end
end Go.Ab
namespace Go.Ab
open Go.RowKit
set_option linter.unusedVariables false
set_option linter.unusedSimpArgs false

theorem info_of {P : Program} {e : TypeId} {sz : Nat} (h : szOf P e = sz) (hp : 0 < sz) : ∃ ie, P.info? e = some ie ∧ ie.size = sz ∧ byOf P e = ie.bytes := by
  cases hi : P.info? e with
  | none => simp [szOf, hi] at h; omega
  | some i => exact ⟨i, rfl, by rw [← h]; simp [szOf, hi], by simp [byOf, hi]⟩

theorem appA_run {P : Program} {T Tx ty : TypeId} {z : Ini} {c : Cx} {h : List ABlk} {w : World} {n : Nat} {x y r : AV} {u v : Value} {d : List (Nat × ABlk)} (s : MSim z h c w) (hx : ARep c h w x u) (hy : ARep c h w y v) (hn : z.n ≤ n) (hu : unborn h n) (ha : appA P n h T Tx x y = some (r, d)) :
    ∃ q w' c', (Builtin.append_ #[T, Tx] ty #[u, v]).run P w = .ok q w' ∧ Later c h w c' (app h d) w' ∧ MSim z (app h d) c' w' ∧ ARep c' (app h d) w' r q := by
  unfold appA at ha
  split at ha
  case h_2 => cases ha
  rename_i e sz by' hk
  obtain ⟨hT, hsz, hby⟩ := tk_slice hk
  split at ha
  case h_2 => cases ha
  rename_i zs o rows rows2 hz hxo hyr
  split at ha
  case isFalse => cases ha
  rename_i hcond
  obtain ⟨hpos, hzl, hb1, hb2⟩ := hcond
  obtain ⟨ie, hie, hisz, hib⟩ := info_of hsz hpos
  obtain ⟨zv, hzr, hzc⟩ := zro_rep hz c h w
  have hzero : ie.zero = some zv := by
    simp [zeroValue, typeInfo, hie] at hzr
    cases hq : ie.zero with
    | none => simp [hq] at hzr
    | some q => simp [hq] at hzr; rw [hzr]
  have hzs : zv.cells.size = sz := by rw [hzc.1, hzl]
  obtain ⟨us2, R2, S2⟩ := yRows_src s hy hyr hpos
  have S2' : Src P ie.size Tx v rows2.length (cellsR us2 sz rows2.length) w := by rw [hisz]; exact S2
  -- no room
  have grow : ∀ {c₁ : Cx} {h₁ : List ABlk} {us : Nat → Nat → Value} {A : Option Addr} {cap : Nat}, MSim z h₁ c₁ w → Later c h w c₁ h₁ w → (∀ b, c.ok b → c₁.ok b) → unborn h₁ n → RowsAs c.ok w sz rows us → Src P sz T (.slice A rows.length cap) rows.length (cellsR us sz rows.length) w → cap < rows.length + rows2.length →
      ∃ q w' c', (Builtin.append_ #[T, Tx] ty #[.slice A rows.length cap, v]).run P w = .ok q w' ∧ Later c h w c' (setx h₁ n (.vec sz (rows ++ rows2))) w' ∧ MSim z (setx h₁ n (.vec sz (rows ++ rows2))) c' w' ∧ ARep c' (setx h₁ n (.vec sz (rows ++ rows2))) w' (.vs n 0 (rows.length + rows2.length)) q := by
    intro c₁ h₁ us A cap s₁ L₁ hok hu₁ R S hg
    have hrun := run_append_grow_src (P := P) w T Tx ty e ie zv hT hie hzero A rows.length cap (cellsR us sz rows.length) (by rw [hisz]; exact S.cellsD) v rows2.length _ S2' hg (by omega) (growslice_fits hg (by rw [← hib, hby]; exact hb1))
    obtain ⟨c', g1, g2, g3⟩ := app_grow s₁ hu₁ hn (R.mono hok (fun _ _ => rfl)) (R2.mono hok (fun _ _ => rfl)) (grownCap_ge w (rows.length + rows2.length) cap e) (zs := Builtin.zeroCells zv.cells (grownCap w (rows.length + rows2.length) cap e - (rows.length + rows2.length))) (by rw [size_zeroCells, hzs]) e
    exact ⟨_, _, c', hrun, L₁.trans g1, g2, g3⟩
  -- the slice itself
  unfold xOwn at hxo
  split at hxo
  · rename_i sz' rows'
    cases hx with
    | pv _ _ hr =>
    have full : ∃ A, u = .slice A rows.length rows.length ∧ ∃ us, RowsAs c.ok w sz rows us ∧ Src P sz T u rows.length (cellsR us sz rows.length) w ∧ o = none := by
      have hr' : Rep c.ok w (.lst true sz rows) u ∧ o = none := by
        split at hxo
        · rename_i he; subst he
          injection hxo with hxo; simp only [Prod.mk.injEq] at hxo
          obtain ⟨rfl, rfl⟩ := hxo
          exact ⟨hr, rfl⟩
        · split at hxo
          · injection hxo with hxo; simp only [Prod.mk.injEq] at hxo
            obtain ⟨rfl, rfl⟩ := hxo
            exact ⟨Sub0 hr, rfl⟩
          · cases hxo
      obtain ⟨us, R, S⟩ := rep_src hT hpos hr'.1
      cases hr'.1 with
      | lst _ _ _ A cc us' h1 h2 h3 h4 h5 h6 =>
        have := h3 rfl
        subst this
        exact ⟨A, rfl, us, R, S, hr'.2⟩
    obtain ⟨A, rfl, us, R, S, rfl⟩ := full
    simp only at ha
    split at ha
    · cases ha
    rename_i hne
    simp only [Option.some.injEq, Prod.mk.injEq] at ha
    obtain ⟨rfl, rfl⟩ := ha
    cases rows2 with
    | nil =>
      have r0 : rows = [] := by
        cases rows with
        | nil => rfl
        | cons q qs => simp at hne
      subst r0
      have hrun := run_append_nothing (P := P) (ty := ty) w T Tx e ie hT hie A 0 0 (by omega) v (by simpa [cellsR] using S2')
      obtain ⟨k1, k2⟩ := s.take (w' := w) (g := 0) (vd := (0, 0)) (b := .vec sz []) hu hn (fun l => by simp [lv, setx_same, Cx.born_vd] at l) rfl rfl rfl (Nat.le_refl _) (fun _ _ _ => rfl) (fun _ => ⟨by simp, fun j row h => by simp at h, fun h => by simp [Cx.born_vd] at h⟩)
      refine ⟨_, _, _, hrun, k1, k2, ?_⟩
      exact .vs n 0 0 _ (.vec sz []) rfl (setx_same _ _ _) (by intro h; cases h) fun sz2 rows2 e' => by
        injection e' with e1 e2; subst e1; subst e2
        exact ⟨by simp, A, by simp [Cx.born_vd], fun h => by simp [Cx.born_vd] at h⟩
    | cons q qs =>
      obtain ⟨q', w', c', g1, g2, g3, g4⟩ := grow s (Later.refl _ _ _) (fun _ h => h) hu R S (by simp)
      exact ⟨q', w', c', g1, g2, g3, g4⟩
  · rename_i i off n'
    split at hxo
    case isFalse => cases hxo
    rename_i hoff; subst hoff
    split at hxo
    case h_2 => cases hxo
    rename_i sz' rows' hi
    split at hxo
    case isFalse => cases hxo
    rename_i hh
    obtain ⟨rfl, rfl⟩ := hh
    injection hxo with hxo; simp only [Prod.mk.injEq] at hxo
    obtain ⟨rfl, rfl⟩ := hxo
    simp only at ha
    split at ha
    case isFalse => cases ha
    rename_i hin
    injection ha with ha; simp only [Prod.mk.injEq] at ha
    obtain ⟨rfl, rfl⟩ := ha
    obtain ⟨us, R, S⟩ := yRows_src (P := P) (tx := T) (y := .vs i 0 rows'.length) (rows := rows') (sz := sz') s hx (by simp only [yRows, hk, hi, if_true, List.drop_zero, List.take_length]) hpos
    cases hx with
    | vs _ _ _ _ b ho hi' hb hv =>
    rw [hi] at hi'; injection hi' with hi'; subst hi'
    obtain ⟨h1, A, rfl, h3⟩ := hv _ _ rfl
    obtain ⟨b1, b2, b3⟩ := s.hs.blk i _ hi
    simp only [Nat.sub_zero, Nat.zero_mul, Nat.add_zero] at h3 S ⊢
    obtain ⟨Ld, Md⟩ := s.drop i _ hi (by intro h; cases h) (fun _ => False) (fun x h => h.elim)
    have hne : n ≠ i := by omega
    have hu₁ : unborn (setx h i .gone) n := by
      unfold unborn
      rcases setx_other h i n .gone hne with e | ⟨e1, e2⟩
      · rw [e]; exact hu
      · exact .inr e2
    by_cases hroom : rows'.length + rows2.length ≤ (c.vd i).2
    · by_cases hcap : 0 < (c.vd i).2
      · obtain ⟨vs, te, g1, g2, g3⟩ := b3 hcap
        obtain rfl := h3 hcap
        have hl : lv c h i := by simp [lv, hi, hcap]
        have cell : ∀ (j k : Nat), j < rows'.length → k < sz' → ∃ u, vs[(c.vd i).1 + (j * sz' + k)]? = some u := fun j k hj hk => by
          have e1 := List.getElem?_eq_getElem hj
          have hlen := b2 j _ e1
          have e2 : rows'[j][k]? = some (rows'[j][k]'(by omega)) := List.getElem?_eq_getElem (by omega)
          obtain ⟨u, u1, u2, u3⟩ := g3 j _ k _ e1 e2
          exact ⟨u, u1⟩
        have R' : RowsAs c.ok w sz' rows' (fun j k => (vs[(c.vd i).1 + (j * sz' + k)]?).getD undef) := ⟨b2, fun j row k p hj hkp => by
          obtain ⟨u, u1, u2, u3⟩ := g3 j row k p hj hkp
          simp only [u1, Option.getD_some]; exact ⟨u2, u3⟩⟩
        have hle : (c.vd i).1 + rows'.length * ie.size + (cellsR us2 sz' rows2.length).length ≤ vs.size := by
          rw [cellsR_length, g2, hisz]
          have : (rows'.length + rows2.length) * sz' ≤ (c.vd i).2 * sz' := Nat.mul_le_mul_right _ hroom
          rw [Nat.add_mul] at this; omega
        have hrun := run_append_room_at (P := P) (ty := ty) T Tx e ie hT hie (c.mu i) (c.vd i).1 rows'.length (c.vd i).2 v rows2.length _ S2' hroom g1 hle
        obtain ⟨c', k1, k2, k3⟩ := app_room (g := c.mu i) (vd := c.vd i) Md hu₁ hn (R'.mono (fun b hb => .inl hb) (fun _ _ => rfl)) (R2.mono (fun b hb => .inl hb) (fun _ _ => rfl)) (s.own i hl) (fun h => h.elim (s.hs.nok i hl) id)
          (fun j lj e => by
            by_cases hji : j = i
            · subst hji; simp [lv, setx_same] at lj
            · exact hji (s.hs.inj j i ((lv_setx_other (c := c) (c' := { c with ok := fun x => c.ok x ∨ False }) hji rfl).1 lj) hl e)) g1 g2 hroom
          (fun j k hj hk => by obtain ⟨u, u1⟩ := cell j k hj hk; rw [u1]; rfl)
        rw [hisz] at hrun
        exact ⟨_, _, c', hrun, Ld.trans k1, k2, k3⟩
      · have hv0 : (c.vd i).2 = 0 := by omega
        have r0 : rows' = [] := List.eq_nil_of_length_eq_zero (by omega)
        have r2 : rows2 = [] := List.eq_nil_of_length_eq_zero (by omega)
        subst r0; subst r2
        have hrun := run_append_nothing (P := P) (ty := ty) w T Tx e ie hT hie A 0 (c.vd i).2 (by omega) v (by simpa [cellsR] using S2')
        obtain ⟨k1, k2⟩ := Md.take (w' := w) (g := 0) (vd := (0, 0)) (b := .vec sz' []) hu₁ hn (fun l => by simp [lv, setx_same, Cx.born_vd] at l) rfl rfl rfl (Nat.le_refl _) (fun _ _ _ => rfl) (fun _ => ⟨by simp, fun j row h => by simp at h, fun h => by simp [Cx.born_vd] at h⟩)
        refine ⟨_, _, _, hrun, Ld.trans k1, k2, ?_⟩
        exact .vs n 0 0 _ (.vec sz' []) rfl (setx_same _ _ _) (by intro h; cases h) fun sz2 rows2 e' => by
          injection e' with e1 e2; subst e1; subst e2
          exact ⟨by simp, A, by simp [Cx.born_vd, hv0], fun h => by simp [Cx.born_vd] at h⟩
    · exact grow Md Ld (fun b hb => .inl hb) hu₁ R S (by omega)
  · cases hxo
end Go.Ab
namespace Go.Ab
open Go.RowKit
set_option linter.unusedVariables false
set_option linter.unusedSimpArgs false

def intAV : AV → Option Int
  | .pv (.int _ n) => some n
  | _ => none
/-- A bound: what is said, or else d. -/
def bndA (d : Int) : Option AV → Option Int
  | none => some d
  | some x => intAV x
/-- A cut, from l to r. -/
def cutA (k : TK) (h : List ABlk) (x : AV) (l r : Int) : Option AV :=
  match k, x with
  | .str, .pv (.str s) => if 0 ≤ l ∧ l ≤ r ∧ r ≤ s.size then some (.pv (.str (s.extract l.toNat r.toNat))) else none
  | .slice _ sz _, .pv (.lst full sz' rows) => if sz' = sz ∧ 0 < sz ∧ 0 ≤ l ∧ l ≤ r ∧ r ≤ rows.length then some (.pv (.lst (full && decide (r = rows.length)) sz ((rows.drop l.toNat).take (r - l).toNat))) else none
  | .slice _ sz _, .vs i off n => match h[i]? with
    | some (.vec sz' _) => if sz' = sz ∧ 0 < sz ∧ 0 ≤ l ∧ l ≤ r ∧ r ≤ n then some (.vs i (off + l.toNat) (r - l).toNat) else none
    | _ => none
  | _, _ => none
def lenZ : AV → Int
  | .pv (.str s) => s.size
  | .pv (.lst _ _ rows) => rows.length
  | .vs _ _ n => n
  | _ => 0
def slcA (k : TK) (h : List ABlk) (x : AV) (lo hi : Option AV) : Option AV :=
  match bndA 0 lo, bndA (lenZ x) hi with
  | some l, some r => cutA k h x l r
  | _, _ => none

theorem bound_run {P : Program} {w : World} {k : IntKind} {n : Int} {y : Nat} {code : BoundsCode} (h : 0 ≤ n ∧ n ≤ y) : (Instr.sliceBound (.int k n) y code).run P w = .ok n.toNat w := by
  simp [Instr.sliceBound, asIntOf, h]

/-- The bounds, as the machine takes them. -/
theorem bounds_run {P : Program} {c : Cx} {h : List ABlk} {w : World} {isS : Bool} {len cap : Nat} {lo hi : Option AV} {lov hiv : Option Value} {l r : Int} (hlo : ∀ x, lo = some x → ∃ v, lov = some v ∧ ARep c h w x v) (hlo' : lo = none → lov = none) (hhi : ∀ x, hi = some x → ∃ v, hiv = some v ∧ ARep c h w x v) (hhi' : hi = none → hiv = none)
    (h1 : bndA 0 lo = some l) (h2 : bndA len hi = some r) (hb : 0 ≤ l ∧ l ≤ r ∧ r ≤ len) (hc : len ≤ cap) : (Instr.sliceBounds isS len cap lov hiv none).run P w = .ok (l.toNat, r.toNat, cap) w := by
  have toInt : ∀ {x : AV} {v : Value} {n : Int}, ARep c h w x v → intAV x = some n → ∃ k, v = .int k n := by
    intro x v n hr hn
    unfold intAV at hn
    split at hn
    · injection hn with hn; subst hn
      cases hr with | pv _ _ hr => cases hr; exact ⟨_, rfl⟩
    · cases hn
  have hL : (lov = none ∧ l = 0) ∨ ∃ k, lov = some (.int k l) := by
    cases hl : lo with
    | none => rw [hl] at h1; simp only [bndA, Option.some.injEq] at h1; exact .inl ⟨hlo' hl, h1.symm⟩
    | some x =>
      obtain ⟨v, e, hr⟩ := hlo x hl
      rw [hl] at h1
      obtain ⟨k, e'⟩ := toInt hr h1
      exact .inr ⟨k, by rw [e, e']⟩
  have hR : (hiv = none ∧ r = len) ∨ ∃ k, hiv = some (.int k r) := by
    cases hl : hi with
    | none => rw [hl] at h2; simp only [bndA, Option.some.injEq] at h2; exact .inl ⟨hhi' hl, h2.symm⟩
    | some x =>
      obtain ⟨v, e, hr⟩ := hhi x hl
      rw [hl] at h2
      obtain ⟨k, e'⟩ := toInt hr h2
      exact .inr ⟨k, by rw [e, e']⟩
  have b1 : ∀ (k : IntKind) (code : BoundsCode), (Instr.sliceBound (.int k l) r.toNat code).run P w = .ok l.toNat w := fun k code => bound_run ⟨hb.1, by omega⟩
  have b2 : ∀ (k : IntKind) (code : BoundsCode), (Instr.sliceBound (.int k r) cap code).run P w = .ok r.toNat w := fun k code => bound_run ⟨by omega, by omega⟩
  rcases hL with ⟨rfl, rfl⟩ | ⟨k, rfl⟩ <;> rcases hR with ⟨rfl, rfl⟩ | ⟨k', rfl⟩
  · simp [Instr.sliceBounds]
  · simp [Instr.sliceBounds, b2]
  · simp only [Int.toNat_natCast] at b1
    simp [Instr.sliceBounds, b1]
  · simp [Instr.sliceBounds, b1, b2]

theorem slcA_run {P : Program} {T : TypeId} {z : Ini} {c : Cx} {h : List ABlk} {w : World} (s : MSim z h c w) {x y : AV} {u : Value} {lo hi : Option AV} {lov hiv : Option Value} (hx : ARep c h w x u) (hlo : ∀ x, lo = some x → ∃ v, lov = some v ∧ ARep c h w x v) (hlo' : lo = none → lov = none) (hhi : ∀ x, hi = some x → ∃ v, hiv = some v ∧ ARep c h w x v) (hhi' : hi = none → hiv = none)
    (hs : slcA (tk P T) h x lo hi = some y) : ∃ q, (Instr.sliceAt T u lov hiv none).run P w = .ok q w ∧ ARep c h w y q := by
  unfold slcA at hs
  split at hs
  case h_2 => cases hs
  rename_i l r h1 h2
  unfold cutA at hs
  split at hs
  · rename_i st hk
    have hu := tk_str hk
    split at hs
    case isFalse => cases hs
    rename_i hb
    injection hs with hs; subst hs
    cases hx with
    | pv _ _ hr =>
    cases hr
    have := bounds_run (P := P) (w := w) (isS := false) (len := st.size) (cap := st.size) hlo hlo' hhi hhi' h1 h2 hb (Nat.le_refl _)
    exact ⟨.string (st.extract l.toNat r.toNat), by simp [Instr.sliceAt, Instr.slice, run_underlying hu, this], .pv _ _ (.str _)⟩
  · rename_i e sz by' full sz' rows hk
    obtain ⟨hu, hsz, _⟩ := tk_slice hk
    split at hs
    case isFalse => cases hs
    rename_i hb
    obtain ⟨rfl, hpos, hb⟩ := hb
    injection hs with hs; subst hs
    cases hx with
    | pv _ _ hr =>
    cases hr with
    | lst _ _ _ A cc us hlen hc hf hA hcell hrep =>
      have hrun := bounds_run (P := P) (w := w) (isS := true) (len := rows.length) (cap := cc) hlo hlo' hhi hhi' h1 h2 hb hc
      have hl' : ((rows.drop l.toNat).take (r - l).toNat).length = r.toNat - l.toNat := by simp; omega
      refine ⟨.slice (if cc = l.toNat then A else A.map (·.add (l.toNat * sz'))) (r.toNat - l.toNat) (cc - l.toNat), by simp [Instr.sliceAt, Instr.slice, run_underlying hu, hrun, szOf_run hsz hpos], .pv _ _ ?_⟩
      have hrow : ∀ (j : Nat) (row : List PV), ((rows.drop l.toNat).take (r - l).toNat)[j]? = some row → j < r.toNat - l.toNat ∧ rows[l.toNat + j]? = some row := by
        intro j row hj
        have hjn : j < r.toNat - l.toNat := by rw [← hl']; exact (List.getElem?_eq_some_iff.1 hj).1
        rw [List.getElem?_take_of_lt (by omega), List.getElem?_drop] at hj
        exact ⟨hjn, hj⟩
      have := Rep.lst (ok := c.ok) (w := w) (full && decide (r = rows.length)) sz' ((rows.drop l.toNat).take (r - l).toNat) (if cc = l.toNat then A else A.map (·.add (l.toNat * sz'))) (cc - l.toNat) (fun j k => us (l.toNat + j) k)
        (fun j row hj => hlen _ row (hrow j row hj).2) (by rw [hl']; omega) (fun hh => by
          simp only [Bool.and_eq_true, decide_eq_true_eq] at hh
          rw [hf hh.1, hl']; omega) (fun h0 => by
          rw [hl'] at h0
          obtain ⟨ad, e⟩ := hA (by omega)
          rw [if_neg (by omega), e]; exact ⟨_, rfl⟩)
        (fun ad' e j row k p hj hk => by
          obtain ⟨hjn, hj'⟩ := hrow j row hj
          obtain ⟨ad, ea⟩ := hA (by omega)
          rw [if_neg (by omega), ea] at e
          simp only [Option.map_some, Option.some.injEq] at e
          subst e
          obtain ⟨q1, q2, q3⟩ := hcell ad ea _ row k p hj' hk
          refine ⟨by rw [Addr.add_block]; exact q1, ?_, q3⟩
          rw [Addr.add_add, ← q2]
          congr 2
          rw [Nat.add_mul]; omega)
        (fun j row k p hj hk => hrep _ row k p (hrow j row hj).2 hk)
      rw [hl'] at this
      exact this
  · rename_i e sz by' i off n hk
    obtain ⟨hu, hsz, _⟩ := tk_slice hk
    split at hs
    case h_2 => cases hs
    rename_i sz' rows hi'
    split at hs
    case isFalse => cases hs
    rename_i hb
    obtain ⟨rfl, hpos, hb⟩ := hb
    injection hs with hs; subst hs
    cases hx with
    | vs _ _ _ _ b ho hi2 hbn hv =>
      rw [hi'] at hi2; injection hi2 with hi2; subst hi2
      obtain ⟨g1, A, rfl, g3⟩ := hv _ _ rfl
      obtain ⟨b1, _, _⟩ := s.hs.blk i _ hi'
      have hrun := bounds_run (P := P) (w := w) (isS := true) (len := n) (cap := (c.vd i).2 - off) hlo hlo' hhi hhi' h1 h2 hb (by omega)
      refine ⟨.slice (if (c.vd i).2 - off = l.toNat then A else A.map (·.add (l.toNat * sz'))) (r.toNat - l.toNat) ((c.vd i).2 - off - l.toNat), by simp [Instr.sliceAt, Instr.slice, run_underlying hu, hrun, szOf_run hsz hpos], ?_⟩
      have hn' : (r - l).toNat = r.toNat - l.toNat := by omega
      rw [hn']
      refine .vs i _ _ _ (.vec sz' rows) rfl hi' (by intro h; cases h) fun sz2 rows2 e => ?_
      injection e with e1 e2; subst e1; subst e2
      refine ⟨by omega, _, by congr 1; omega, fun hlt => ?_⟩
      rw [if_neg (by omega), g3 (by omega)]
      simp only [Option.map_some, Addr.add_plain]
      congr 2
      rw [Nat.add_mul]; omega
  · cases hs
end Go.Ab
namespace Go.Ab
open Go.RowKit
set_option linter.unusedVariables false
set_option linter.unusedSimpArgs false

/-- The numbers of one-cell rows of bytes. -/
def bytesA : List (List PV) → Option (List Int)
  | [] => some []
  | [.int .u8 n] :: l => (bytesA l).map (n :: ·)
  | _ => none
theorem bytesA_map (ns : List Int) : bytesA (ns.map fun n => [.int .u8 n]) = some ns := by
  induction ns with
  | nil => rfl
  | cons n ns ih => simp [bytesA, ih]
theorem bytesA_get : ∀ {rows : List (List PV)} {ns : List Int}, bytesA rows = some ns → rows = ns.map fun n => [.int .u8 n]
  | [], ns, h => by simp [bytesA] at h; subst h; rfl
  | row :: rows, ns, h => by
    unfold bytesA at h
    split at h
    · rename_i e; cases e
    · rename_i n l e
      injection e with e1 e2; subst e1; subst e2
      simp only [Option.map_eq_some_iff] at h
      obtain ⟨ms, hm, rfl⟩ := h
      rw [bytesA_get hm]; rfl
    · cases h
def strOf (ns : List Int) : ByteArray := ns.foldl (fun r n => r.push (UInt8.ofNat n.toNat)) ByteArray.empty
def cnvA (P : Program) (h : List ABlk) (s d : TypeId) (x : AV) : Option PV :=
  match tk P d, tk P s with
  | .str, .slice e sz b => (match tk P e with | .int .u8 => (match yRows h (.slice e sz b) 1 x with | some rows => (bytesA rows).map fun ns => .str (strOf ns) | none => none) | _ => none)
  | _, _ => none

theorem yRows_slice {c : Cx} {h : List ABlk} {w : World} {x : AV} {v : Value} {e sz b q : Nat} {rows : List (List PV)} (hx : ARep c h w x v) (hy : yRows h (.slice e sz b) q x = some rows) : ∃ A cap, v = .slice A rows.length cap := by
  cases hx with
  | pv p _ hr =>
    cases p with
    | lst full sz' rows' =>
      simp only [yRows] at hy
      cases hr with
      | lst _ _ _ A cc us h1 h2 h3 h4 h5 h6 =>
        split at hy
        · injection hy with hy; subst hy; exact ⟨A, cc, rfl⟩
        · split at hy
          · injection hy with hy; subst hy; exact ⟨A, cc, rfl⟩
          · cases hy
    | _ => simp [yRows] at hy
  | vs i off n v b' ho hi hb hv =>
    simp only [yRows, hi] at hy
    split at hy
    · rename_i sz' rows' heq
      injection heq with heq; subst heq
      split at hy
      · injection hy with hy; subst hy
        obtain ⟨h1, A, rfl, _⟩ := hv _ _ rfl
        have hl : ((rows'.drop off).take n).length = n := by simp; omega
        exact ⟨A, (c.vd i).2 - off, by rw [hl]⟩
      · cases hy
    · cases hy
  | _ => simp [yRows] at hy

theorem cnvA_run {P : Program} {sT dT : TypeId} {z : Ini} {c : Cx} {h : List ABlk} {w : World} (s : MSim z h c w) {x : AV} {v : Value} {p : PV} (hx : ARep c h w x v) (hc : cnvA P h sT dT x = some p) :
    ∃ q, (convert sT dT v).run P w = .ok q w ∧ Rep c.ok w p q := by
  unfold cnvA at hc
  split at hc
  case h_2 => cases hc
  rename_i e sz b hd hk
  split at hc
  case h_2 => cases hc
  rename_i he
  split at hc
  case h_2 => cases hc
  rename_i rows hy
  simp only [Option.map_eq_some_iff] at hc
  obtain ⟨ns, hn, rfl⟩ := hc
  have hrows := bytesA_get hn
  obtain ⟨hu, _, _⟩ := tk_slice hk
  have hdu := tk_str hd
  have heu := tk_int he
  obtain ⟨us, R, S⟩ := yRows_src (P := P) (tx := sT) (sz := 1) (rows := rows) s hx (by rw [hk]; exact hy) (by omega)
  obtain ⟨A, cap, rfl⟩ := yRows_slice hx hy
  have hlen : rows.length = ns.length := by rw [hrows]; simp
  have hcells : cellsR us 1 rows.length = ns.map (Value.int .u8) := by
    apply List.ext_getElem?
    intro q
    by_cases hq : q < rows.length
    · rw [cellsR_get us 1 _ q (by omega), Nat.div_one, Nat.mod_one]
      have hq' : q < ns.length := by omega
      have hr : rows[q]? = some [.int .u8 ns[q]] := by rw [hrows]; simp [hq']
      obtain ⟨_, r2⟩ := R.2 q _ 0 _ hr rfl
      generalize us q 0 = u0 at r2
      cases r2
      simp [hq']
    · rw [List.getElem?_eq_none (by rw [cellsR_length]; omega), List.getElem?_eq_none (by simp; omega)]
  refine ⟨.string (strOf ns), ?_, .str _⟩
  cases A with
  | none =>
    have h0 := S.cells
    rw [hcells] at h0
    simp [Builtin.firstCells] at h0
    have : ns = [] := by
      cases ns with
      | nil => rfl
      | cons a ns => simp at h0
    subst this
    simp [convert, run_underlying hu, run_underlying hdu, run_underlying heu, Conv.bytesToString, strOf]
  | some a =>
    have h0 := S.cells
    rw [hcells] at h0
    simp only [Builtin.firstCells, Nat.mul_one] at h0
    have := run_bytesToString (P := P) w a rows.length cap ns h0
    simp [convert, run_underlying hu, run_underlying hdu, run_underlying heu, this, strOf]
end Go.Ab
namespace Go.Ab
open Go.RowKit
set_option linter.unusedVariables false
set_option linter.unusedSimpArgs false

/-- 'make([]T, l, c)'. -/
def mkA (P : Program) (n : Nat) (T : TypeId) (x y : AV) : Option (AV × List (Nat × ABlk)) :=
  match tk P T, intAV x, intAV y with
  | .slice e sz by', some l, some c => match zro P e with
    | some zs => (match purL zs with
      | some ps => if 0 < sz ∧ zs.length = sz ∧ 0 ≤ l ∧ l ≤ c ∧ (by' : Int) * c ≤ 281474976710656 ∧ c ≤ 9223372036854775807 then some (.vs n 0 l.toNat, [(n, .vec sz (List.replicate l.toNat ps))]) else none
      | none => none)
    | none => none
  | _, _, _ => none
theorem mkA_run {P : Program} {T : TypeId} {z : Ini} {c : Cx} {h : List ABlk} {w : World} {n : Nat} {x y r : AV} {u v : Value} {d : List (Nat × ABlk)} (s : MSim z h c w) (hx : ARep c h w x u) (hy : ARep c h w y v) (hn : z.n ≤ n) (hu : unborn h n) (ha : mkA P n T x y = some (r, d)) :
    ∃ q w' c', (Instr.makeSlice T u v).run P w = .ok q w' ∧ Later c h w c' (app h d) w' ∧ MSim z (app h d) c' w' ∧ ARep c' (app h d) w' r q := by
  unfold mkA at ha
  split at ha
  case h_2 => cases ha
  rename_i e sz by' l cc hk hl hc
  obtain ⟨hT, hsz, hby⟩ := tk_slice hk
  split at ha
  case h_2 => cases ha
  rename_i zs hz
  split at ha
  case h_2 => cases ha
  rename_i ps hps
  split at ha
  case isFalse => cases ha
  rename_i hcond
  obtain ⟨hpos, hzl, h0, hlc, hb, h63⟩ := hcond
  injection ha with ha; simp only [Prod.mk.injEq] at ha
  obtain ⟨rfl, rfl⟩ := ha
  have toInt : ∀ {x : AV} {v : Value} {n : Int}, ARep c h w x v → intAV x = some n → ∃ k, v = .int k n := by
    intro x v n hr hn
    unfold intAV at hn
    split at hn
    · injection hn with hn; subst hn
      cases hr with | pv _ _ hr => cases hr; exact ⟨_, rfl⟩
    · cases hn
  obtain ⟨kl, rfl⟩ := toInt hx hl
  obtain ⟨kc, rfl⟩ := toInt hy hc
  obtain ⟨ie, hie, hisz, hib⟩ := info_of hsz hpos
  obtain ⟨zv, hzr, hzc⟩ := zro_rep hz c h w
  have hzero : ie.zero = some zv := by
    simp [zeroValue, typeInfo, hie] at hzr
    cases hq : ie.zero with
    | none => simp [hq] at hzr
    | some q => simp [hq] at hzr; rw [hzr]
  have hzs : zv.cells.size = sz := by rw [hzc.1, hzl]
  have hrun := run_make (P := P) w T e ie zv hT hie hzero kl kc l cc h0 hlc (by rw [← hib, hby]; exact hb) h63
  obtain ⟨g1, g2⟩ := purL_get hps
  have hpl : ps.length = sz := by rw [← g1, hzl]
  have hb : BRep (c.born n w.heap.size (0, cc.toNat)) (setx h n (.vec sz (List.replicate l.toNat ps))) (w.alloc (.cells (madeCells zv.cells (cc.toNat * ie.size)) e)) n (.vec sz (List.replicate l.toNat ps)) := by
    refine ⟨by rw [Cx.born_vd]; simp; omega, fun j row hj => ?_, fun _ => ⟨_, e, by rw [Cx.born_mu]; exact heap_alloc_new _ _, by rw [Cx.born_vd, size_madeCells, hisz]; simp, fun j row k p hj hk => ?_⟩⟩
    · obtain ⟨hj1, rfl⟩ := List.getElem?_eq_some_iff.1 hj
      simp [hpl]
    · obtain ⟨hj1, rfl⟩ := List.getElem?_eq_some_iff.1 hj
      simp only [List.length_replicate] at hj1
      simp only [List.getElem_replicate] at hk
      have hkl : k < sz := by rw [← hpl]; exact (List.getElem?_eq_some_iff.1 hk).1
      obtain ⟨a, ha, hpa⟩ := g2 k p hk
      obtain ⟨u, u1, u2, u3⟩ := hzc.2 k a ha
      refine ⟨u, ?_, u2, ((u3.pur hpa).mono (fun b hb => hb) (keep_alloc c.ok w _ s.hs.okb))⟩
      have hlt : j * sz + k < cc.toNat * ie.size := by
        rw [hisz]
        have : (j + 1) * sz ≤ cc.toNat * sz := Nat.mul_le_mul_right _ (by omega)
        rw [Nat.add_mul] at this; omega
      have hmod : (j * sz + k) % sz = k := by rw [Nat.mul_comm, Nat.mul_add_mod, Nat.mod_eq_of_lt hkl]
      rw [Cx.born_vd]
      simp only [Nat.zero_add, madeCells, Array.getElem?_map, Array.getElem?_range, hlt, if_true, Option.map_some, hzs, hmod]
      have hks : k < zv.cells.size := by omega
      rw [Array.getElem?_eq_getElem hks] at u1
      injection u1 with u1
      rw [getElem!_pos zv.cells k hks, u1]
  obtain ⟨L, M⟩ := s.born n hu hn (.vec sz (List.replicate l.toNat ps)) (0, cc.toNat) (.cells (madeCells zv.cells (cc.toNat * ie.size)) e) hb
  refine ⟨_, _, _, hrun, L, M, .vs n 0 _ _ (.vec sz (List.replicate l.toNat ps)) rfl (setx_same _ _ _) (by intro h; cases h) fun sz' rows' e' => ?_⟩
  injection e' with e1 e2; subst e1; subst e2
  refine ⟨by simp, some ⟨w.heap.size, 0, none⟩, by rw [Cx.born_vd]; simp, fun _ => ?_⟩
  rw [Cx.born_mu, Cx.born_vd]
  simp
end Go.Ab
