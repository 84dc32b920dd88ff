/- Values without memory ('PV'), values that may lead into a call's own memory ('AV'), a call's own memory ('ABlk'), and what the machine's world shows of them. -/
import Derived.WalkKit
import Derived.KernelRfl
import Derived.Deep.Draws
namespace Go.Ab
set_option linter.unusedVariables false
set_option linter.unusedSimpArgs false

/-! ### Values -/

/-- A value that needs no memory of the call's own: numbers, truths, texts, lists that nobody changes any more (each element a row of cells; 'full': there is no room behind the last). -/
inductive PV where
  | int (k : IntKind) (n : Int)
  | bool (b : Bool)
  | str (s : ByteArray)
  | lst (full : Bool) (sz : Nat) (rows : List (List PV))
  | agg (cs : List PV)
  | tup (vs : List PV)
  | ifc (t : TypeId) (v : PV)
  | nilIfc
  | nilFn
  | nilPtr
  | nilMap

/-- A value of a running call: besides a PV: addresses into the call's own memory, elements of lists, slices of its own, functions. -/
inductive AV where
  | pv (p : PV)
  | ptr (i off : Nat)
  | el (row : List PV) (off : Nat)
  | vs (i off n : Nat)
  | ve (i r off : Nat)
  | sl (i off n cap : Nat)
  | agg (cs : List AV)
  | tup (vs : List AV)
  | fn (f : Fn) (first captured : List AV)
  | ifc (t : TypeId) (v : AV)
  | mp (i : Nat)
  | any

/-- A block of the call's own memory: not yet there, given up, a row of cells, a slice that may grow, a map. -/
inductive ABlk where
  | nb
  | gone
  | box (cs : List AV)
  | vec (sz : Nat) (rows : List (List PV))
  | mp (es : List (PV × List PV))

/-- How names of blocks stand for the machine's: the block; of a slice where it begins in it and its capacity; which blocks nobody changes. -/
structure Cx where
  mu : Nat → Nat
  vd : Nat → Nat × Nat
  ok : Nat → Prop

/-- What a world shows of a PV. -/
inductive Rep (ok : Nat → Prop) (w : World) : PV → Value → Prop
  | int (k : IntKind) (n : Int) : Rep ok w (.int k n) (.int k n)
  | bool (b : Bool) : Rep ok w (.bool b) (.bool b)
  | str (s : ByteArray) : Rep ok w (.str s) (.string s)
  | lst (full : Bool) (sz : Nat) (rows : List (List PV)) (A : Option Addr) (c : Nat) (us : Nat → Nat → Value)
      (hlen : ∀ (j : Nat) (row : List PV), rows[j]? = some row → row.length = sz) (hc : rows.length ≤ c) (hf : full = true → c = rows.length)
      (hA : 0 < rows.length → ∃ ad, A = some ad)
      (hcell : ∀ (ad : Addr), A = some ad → ∀ (j : Nat) (row : List PV) (k : Nat) (p : PV), rows[j]? = some row → row[k]? = some p → ok ad.block ∧ w.cell? (ad.add (j * sz + k)) = some (us j k) ∧ (us j k).oneCell' = true)
      (hrep : ∀ (j : Nat) (row : List PV) (k : Nat) (p : PV), rows[j]? = some row → row[k]? = some p → Rep ok w p (us j k)) :
      Rep ok w (.lst full sz rows) (.slice A rows.length c)
  | agg (ps : List PV) (vs : List Value) (hl : ps.length = vs.length) (ho : ∀ v ∈ vs, v.oneCell' = true) (h : ∀ (k : Nat) (p : PV) (v : Value), ps[k]? = some p → vs[k]? = some v → Rep ok w p v) : Rep ok w (.agg ps) (.agg vs.toArray)
  | tup (ps : List PV) (vs : List Value) (hl : ps.length = vs.length) (h : ∀ (k : Nat) (p : PV) (v : Value), ps[k]? = some p → vs[k]? = some v → Rep ok w p v) : Rep ok w (.tup ps) (.tuple vs.toArray)
  | ifc (t : TypeId) (p : PV) (v : Value) (h : Rep ok w p v) : Rep ok w (.ifc t p) (.iface t v)
  | nilIfc : Rep ok w .nilIfc .nilIface
  | nilFn : Rep ok w .nilFn .nilFunc
  | nilPtr : Rep ok w .nilPtr (.pointer none)
  | nilMap : Rep ok w .nilMap (.map none)

/-- Of the blocks of S the second world shows what the first does. -/
def Keep (S : Nat → Prop) (w w' : World) : Prop := ∀ b, S b → w'.heap[b]? = w.heap[b]?

theorem Keep.cell {S : Nat → Prop} {w w' : World} (h : Keep S w w') {a : Addr} (ha : S a.block) : w'.cell? a = w.cell? a := by
  simp only [World.cell?, h _ ha]

theorem Addr.add_block (a : Addr) (n : Nat) : (a.add n).block = a.block := by unfold Addr.add; split <;> rfl
theorem Addr.add_add (a : Addr) (m n : Nat) : (a.add m).add n = a.add (m + n) := by
  unfold Addr.add
  by_cases h1 : m = 0 <;> by_cases h2 : n = 0 <;> simp [h1, h2, Nat.add_assoc]
theorem Addr.add_plain (b o n : Nat) : (⟨b, o, none⟩ : Addr).add n = ⟨b, o + n, none⟩ := by unfold Addr.add; split <;> simp_all

theorem Rep.mono {ok ok' : Nat → Prop} {w w' : World} (hk : ∀ b, ok b → ok' b) (hw : Keep ok w w') {p : PV} {v : Value} (h : Rep ok w p v) : Rep ok' w' p v := by
  induction h with
  | int | bool | str | nilIfc | nilFn | nilPtr | nilMap => constructor
  | lst full sz rows A c us hlen hc hf hA hcell hrep ih =>
    refine .lst full sz rows A c us hlen hc hf hA (fun ad e j row k p h1 h2 => ?_) ih
    obtain ⟨h3, h4, h5⟩ := hcell ad e j row k p h1 h2
    exact ⟨hk _ h3, by rw [hw.cell (by rw [Addr.add_block]; exact h3)]; exact h4, h5⟩
  | agg ps vs hl ho h ih => exact .agg ps vs hl ho ih
  | tup ps vs hl h ih => exact .tup ps vs hl ih
  | ifc t p v h ih => exact .ifc t p v ih

/-- What a world shows of an AV. -/
inductive ARep (c : Cx) (h : List ABlk) (w : World) : AV → Value → Prop
  | pv (p : PV) (v : Value) (hr : Rep c.ok w p v) : ARep c h w (.pv p) v
  | ptr (i off : Nat) (v : Value) (b : ABlk) (ho : v.oneCell' = true) (hi : h[i]? = some b) (hb : b ≠ .nb) (hv : ∀ cs, b = .box cs → v = .pointer (some ⟨c.mu i, off, none⟩)) : ARep c h w (.ptr i off) v
  | el (row : List PV) (off : Nat) (a : Addr) (us : Nat → Value) (hcell : ∀ (k : Nat) (p : PV), row[k]? = some p → c.ok a.block ∧ w.cell? (a.add k) = some (us k) ∧ (us k).oneCell' = true ∧ Rep c.ok w p (us k)) :
      ARep c h w (.el row off) (.pointer (some (a.add off)))
  | vs (i off n : Nat) (v : Value) (b : ABlk) (ho : v.oneCell' = true) (hi : h[i]? = some b) (hb : b ≠ .nb)
      (hv : ∀ sz rows, b = .vec sz rows → off + n ≤ rows.length ∧ ∃ A, v = .slice A n ((c.vd i).2 - off) ∧ (off < (c.vd i).2 → A = some ⟨c.mu i, (c.vd i).1 + off * sz, none⟩)) : ARep c h w (.vs i off n) v
  | ve (i r off : Nat) (v : Value) (b : ABlk) (ho : v.oneCell' = true) (hi : h[i]? = some b) (hb : b ≠ .nb)
      (hv : ∀ sz rows, b = .vec sz rows → v = .pointer (some ⟨c.mu i, (c.vd i).1 + r * sz + off, none⟩)) : ARep c h w (.ve i r off) v
  | sl (i off n cap : Nat) (v : Value) (b : ABlk) (ho : v.oneCell' = true) (hi : h[i]? = some b) (hb : b ≠ .nb)
      (hv : ∀ cs, b = .box cs → n ≤ cap ∧ ∃ A, v = .slice A n cap ∧ (0 < cap → A = some ⟨c.mu i, off, none⟩)) : ARep c h w (.sl i off n cap) v
  | agg (xs : List AV) (vs : List Value) (hl : xs.length = vs.length) (ho : ∀ v ∈ vs, v.oneCell' = true) (hr : ∀ (k : Nat) (x : AV) (v : Value), xs[k]? = some x → vs[k]? = some v → ARep c h w x v) : ARep c h w (.agg xs) (.agg vs.toArray)
  | tup (xs : List AV) (vs : List Value) (hl : xs.length = vs.length) (hr : ∀ (k : Nat) (x : AV) (v : Value), xs[k]? = some x → vs[k]? = some v → ARep c h w x v) : ARep c h w (.tup xs) (.tuple vs.toArray)
  | fn (f : Fn) (xs ys : List AV) (us vs : List Value) (hl : xs.length = us.length) (hr : ∀ (k : Nat) (x : AV) (v : Value), xs[k]? = some x → us[k]? = some v → ARep c h w x v)
      (hl' : ys.length = vs.length) (hr' : ∀ (k : Nat) (x : AV) (v : Value), ys[k]? = some x → vs[k]? = some v → ARep c h w x v) : ARep c h w (.fn f xs ys) (.func f us.toArray vs.toArray)
  | ifc (t : TypeId) (x : AV) (v : Value) (hr : ARep c h w x v) : ARep c h w (.ifc t x) (.iface t v)
  | mp (i : Nat) (v : Value) (b : ABlk) (ho : v.oneCell' = true) (hi : h[i]? = some b) (hb : b ≠ .nb) (hv : ∀ es, b = .mp es → v = .map (some (c.mu i))) : ARep c h w (.mp i) v
  | any (v : Value) : ARep c h w .any v

/-- From one state of a call's memory to a later one: what was given up stays so; what is there stays what it is, or is given up. -/
structure Later (c : Cx) (h : List ABlk) (w : World) (c' : Cx) (h' : List ABlk) (w' : World) : Prop where
  okm : ∀ b, c.ok b → c'.ok b
  keep : Keep c.ok w w'
  blk : ∀ i b, h[i]? = some b → b ≠ .nb → ∃ b', h'[i]? = some b' ∧ b' ≠ .nb ∧ (b' ≠ .gone → c'.mu i = c.mu i ∧ c'.vd i = c.vd i) ∧
    (∀ cs', b' = .box cs' → ∃ cs, b = .box cs) ∧ (∀ sz rows', b' = .vec sz rows' → ∃ rows, b = .vec sz rows ∧ rows.length ≤ rows'.length) ∧ (∀ es', b' = .mp es' → ∃ es, b = .mp es)

theorem Later.refl (c : Cx) (h : List ABlk) (w : World) : Later c h w c h w :=
  ⟨fun _ h => h, fun _ _ => rfl, fun i b hi hb => ⟨b, hi, hb, fun _ => ⟨rfl, rfl⟩, fun cs e => ⟨cs, e⟩, fun sz rows e => ⟨rows, e, Nat.le_refl _⟩, fun es e => ⟨es, e⟩⟩⟩

theorem Later.trans {c c₁ c₂ : Cx} {h h₁ h₂ : List ABlk} {w w₁ w₂ : World} (a : Later c h w c₁ h₁ w₁) (b : Later c₁ h₁ w₁ c₂ h₂ w₂) : Later c h w c₂ h₂ w₂ := by
  refine ⟨fun x hx => b.okm x (a.okm x hx), fun x hx => (b.keep x (a.okm x hx)).trans (a.keep x hx), fun i x hi hx => ?_⟩
  obtain ⟨y, hy, ny, my, b1, v1, p1⟩ := a.blk i x hi hx
  obtain ⟨z, hz, nz, mz, b2, v2, p2⟩ := b.blk i y hy ny
  refine ⟨z, hz, nz, fun ng => ?_, fun cs e => ?_, fun sz rows e => ?_, fun es e => ?_⟩
  · have hyg : y ≠ .gone := by
      intro e
      cases z with
      | nb => exact nz rfl
      | gone => exact ng rfl
      | box cs => obtain ⟨cs', e'⟩ := b2 cs rfl; rw [e] at e'; cases e'
      | vec sz rows => obtain ⟨r', e', _⟩ := v2 sz rows rfl; rw [e] at e'; cases e'
      | mp es => obtain ⟨r', e'⟩ := p2 es rfl; rw [e] at e'; cases e'
    exact ⟨(mz ng).1.trans (my hyg).1, (mz ng).2.trans (my hyg).2⟩
  · obtain ⟨cs', e'⟩ := b2 cs e; exact b1 cs' e'
  · obtain ⟨r', e', hl⟩ := v2 sz rows e
    obtain ⟨r, e'', hl'⟩ := v1 sz r' e'
    exact ⟨r, e'', Nat.le_trans hl' hl⟩
  · obtain ⟨es', e'⟩ := p2 es e; exact p1 es' e'

theorem ARep.later {c c' : Cx} {h h' : List ABlk} {w w' : World} (l : Later c h w c' h' w') {x : AV} {v : Value} (r : ARep c h w x v) : ARep c' h' w' x v := by
  induction r with
  | pv p v hr => exact .pv p v (hr.mono l.okm l.keep)
  | ptr i off v b ho hi hb hv =>
    obtain ⟨b', hi', hb', hm, h1, _, _⟩ := l.blk i b hi hb
    refine .ptr i off v b' ho hi' hb' fun cs e => ?_
    obtain ⟨cs', e'⟩ := h1 cs e
    rw [hv cs' e', (hm (by rw [e]; intro h; cases h)).1]
  | el row off a us hcell =>
    refine .el row off a us fun k p hk => ?_
    obtain ⟨h1, h2, h4, h3⟩ := hcell k p hk
    exact ⟨l.okm _ h1, by rw [l.keep.cell (by rw [Addr.add_block]; exact h1)]; exact h2, h4, h3.mono l.okm l.keep⟩
  | vs i off n v b ho hi hb hv =>
    obtain ⟨b', hi', hb', hm, _, h1, _⟩ := l.blk i b hi hb
    refine .vs i off n v b' ho hi' hb' fun sz rows e => ?_
    obtain ⟨rows', e', hl⟩ := h1 sz rows e
    obtain ⟨g1, A, g2, g3⟩ := hv sz rows' e'
    have hmm := hm (by rw [e]; intro h; cases h)
    rw [hmm.1, hmm.2]
    exact ⟨by omega, A, g2, g3⟩
  | ve i r off v b ho hi hb hv =>
    obtain ⟨b', hi', hb', hm, _, h1, _⟩ := l.blk i b hi hb
    refine .ve i r off v b' ho hi' hb' fun sz rows e => ?_
    obtain ⟨rows', e', hl⟩ := h1 sz rows e
    have hmm := hm (by rw [e]; intro h; cases h)
    rw [hv sz rows' e', hmm.1, hmm.2]
  | sl i off n cap v b ho hi hb hv =>
    obtain ⟨b', hi', hb', hm, h1, _, _⟩ := l.blk i b hi hb
    refine .sl i off n cap v b' ho hi' hb' fun cs e => ?_
    obtain ⟨cs', e'⟩ := h1 cs e
    rw [(hm (by rw [e]; intro h; cases h)).1]
    exact hv cs' e'
  | agg xs vs hl ho hr ih => exact .agg xs vs hl ho ih
  | tup xs vs hl hr ih => exact .tup xs vs hl ih
  | fn f xs ys us vs hl hr hl' hr' ih ih' => exact .fn f xs ys us vs hl ih hl' ih'
  | ifc t x v hr ih => exact .ifc t x v ih
  | mp i v b ho hi hb hv =>
    obtain ⟨b', hi', hb', hm, _, _, h1⟩ := l.blk i b hi hb
    refine .mp i v b' ho hi' hb' fun es e => ?_
    obtain ⟨es', e'⟩ := h1 es e
    rw [hv es' e', (hm (by rw [e]; intro h; cases h)).1]
  | any v => exact .any v
end Go.Ab
