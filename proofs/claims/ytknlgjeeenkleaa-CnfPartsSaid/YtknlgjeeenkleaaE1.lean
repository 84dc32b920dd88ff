/- What is read of an input, as values without memory. -/
import Derived.Test.YtknlgjeeenkleaaC6
import Derived.SizedLaws
import Derived.ProofKit
import Derived.Carry
import Derived.ChangeShapes
namespace Go.Ab
open Go.RowKit
set_option linter.unusedVariables false
set_option linter.unusedSimpArgs false

/-- What a cell of a type holds. -/
inductive FT where
  | int (k : IntKind)
  | bool
  | str
  | slice (es : List FT)

mutual
def Fit : FT → PV → Prop
  | .int k, p => ∃ n, p = .int k n ∧ (Lit.int k n).wf = true
  | .bool, p => ∃ b, p = .bool b
  | .str, p => ∃ s : ByteArray, p = .str s ∧ s.size ≤ maxLen
  | .slice es, p => ∃ rows, p = .lst false es.length rows ∧ rows.length ≤ maxLen ∧ ∀ row, row ∈ rows → FitL es row
def FitL : List FT → List PV → Prop
  | [], ps => ps = []
  | f :: fs, ps => ∃ p qs, ps = p :: qs ∧ Fit f p ∧ FitL fs qs
end
theorem FitL_length : ∀ {fs : List FT} {ps : List PV}, FitL fs ps → ps.length = fs.length
  | [], ps, h => by simp [FitL] at h; simp [h]
  | f :: fs, ps, h => by
    simp only [FitL] at h
    obtain ⟨p, qs, rfl, _, h2⟩ := h
    simp [FitL_length h2]
theorem FitL_append : ∀ {fs gs : List FT} {ps qs : List PV}, FitL fs ps → FitL gs qs → FitL (fs ++ gs) (ps ++ qs)
  | [], gs, ps, qs, h, k => by simp only [FitL] at h; subst h; simpa using k
  | f :: fs, gs, ps, qs, h, k => by
    simp only [FitL] at h
    obtain ⟨p, ps', rfl, h1, h2⟩ := h
    simp only [List.cons_append, FitL]
    exact ⟨p, ps' ++ qs, rfl, h1, FitL_append h2 k⟩

def flatF (P : Program) (g : TypeId → Option (List FT)) : Nat → List Field → Option (List FT)
  | _, [] => some []
  | off, f :: fs => if f.offset = off then (match g f.type with
    | some l => if P.cellsOf f.type = l.length then (flatF P g (off + l.length) fs).map (l ++ ·) else none
    | none => none) else none
def flatT (P : Program) : Nat → TypeId → Option (List FT)
  | 0, _ => none
  | d + 1, t => match P.underlying t with
    | some .bool => some [.bool]
    | some (.int k) => some [.int k]
    | some .string => some [.str]
    | some (.slice e) => match flatT P d e with
      | some l => if P.cellsOf e = l.length ∧ 0 < l.length then some [.slice l] else none
      | none => none
    | some (.array n e) => match flatT P d e with
      | some l => if P.cellsOf e = l.length ∧ P.cellsOf t = n * l.length then some (List.replicate n l).flatten else none
      | none => none
    | some (.struct fs) => match flatF P (flatT P d) 0 fs.toList with
      | some l => if P.cellsOf t = l.length then some l else none
      | none => none
    | _ => none

/-- Cells that show values. -/
def Shows (w : World) (ps : List PV) (cs : List Value) : Prop := ps.length = cs.length ∧ ∀ (k : Nat) (p : PV) (c : Value), ps[k]? = some p → cs[k]? = some c → Rep (fun b => b < w.heap.size) w p c ∧ c.oneCell' = true
theorem Shows.nil (w : World) : Shows w [] [] := ⟨rfl, fun k p c h => by simp at h⟩
theorem Shows.one {w : World} {p : PV} {c : Value} (h : Rep (fun b => b < w.heap.size) w p c) (ho : c.oneCell' = true) : Shows w [p] [c] := ⟨rfl, fun k q d hk hd => by
  cases k with
  | zero => simp at hk hd; subst hk; subst hd; exact ⟨h, ho⟩
  | succ k => simp at hk⟩
theorem Shows.append {w : World} {ps qs : List PV} {cs ds : List Value} (h : Shows w ps cs) (k : Shows w qs ds) : Shows w (ps ++ qs) (cs ++ ds) := by
  refine ⟨by simp [h.1, k.1], fun j p c hp hc => ?_⟩
  by_cases hj : j < ps.length
  · rw [List.getElem?_append_left hj] at hp
    rw [List.getElem?_append_left (by rw [← h.1]; exact hj)] at hc
    exact h.2 j p c hp hc
  · rw [List.getElem?_append_right (by omega)] at hp
    rw [List.getElem?_append_right (by rw [← h.1]; omega), ← h.1] at hc
    exact k.2 _ p c hp hc

theorem cells_get {w : World} {base : Nat} {a : Addr} {n : Nat} {cs : List Value} (h : w.cells? base a n = some cs) : cs.length = n ∧ ∀ k, k < n → w.cell? (a.add k) = cs[k]? := by
  unfold World.cells? at h
  split at h
  · have key : ∀ (l : List Nat) (cs : List Value), l.mapM (fun i => w.cell? (a.add i)) = some cs → cs.length = l.length ∧ ∀ (k i : Nat), l[k]? = some i → w.cell? (a.add i) = cs[k]? := by
      intro l
      induction l with
      | nil => intro cs h; simp at h; subst h; exact ⟨rfl, fun k i h => by simp at h⟩
      | cons j l ih =>
        intro cs h
        rw [List.mapM_cons] at h
        simp only [bind, Option.bind_eq_some_iff, pure, Option.some.injEq] at h
        obtain ⟨c, h1, cs', h2, rfl⟩ := h
        obtain ⟨g1, g2⟩ := ih cs' h2
        refine ⟨by simp [g1], fun k i hk => ?_⟩
        cases k with
        | zero => simp at hk; subst hk; simpa using h1
        | succ k => simpa using g2 k i (by simpa using hk)
    obtain ⟨h1, h2⟩ := key _ cs h
    exact ⟨by simpa using h1, fun k hk => h2 k k (by simp [hk])⟩
  · cases h
theorem mapM_get {α β : Type} {f : α → Option β} : ∀ {l : List α} {ys : List β}, l.mapM f = some ys → ys.length = l.length ∧ ∀ (k : Nat) (x : α), l[k]? = some x → ∃ y, ys[k]? = some y ∧ f x = some y
  | [], ys, h => by simp at h; subst h; exact ⟨rfl, fun k x h => by simp at h⟩
  | x :: l, ys, h => by
    rw [List.mapM_cons] at h
    simp only [bind, Option.bind_eq_some_iff, pure, Option.some.injEq] at h
    obtain ⟨y, h1, ys', h2, rfl⟩ := h
    obtain ⟨g1, g2⟩ := mapM_get h2
    refine ⟨by simp [g1], fun k z hk => ?_⟩
    cases k with
    | zero => simp at hk; subst hk; exact ⟨y, rfl, h1⟩
    | succ k => simpa using g2 k z (by simpa using hk)

/-- As many rows as are read one by one. -/
theorem rows_of {w : World} {es : List FT} (g : Nat → Option (List Value)) : ∀ (n : Nat), (∀ i, i < n → ∃ ps cs, g i = some cs ∧ FitL es ps ∧ Shows w ps cs) → ∃ rows : List (List PV), rows.length = n ∧ ∀ i row, rows[i]? = some row → ∃ cs, g i = some cs ∧ FitL es row ∧ Shows w row cs
  | 0, _ => ⟨[], rfl, fun i row h => by simp at h⟩
  | n + 1, h => by
    obtain ⟨rows, h1, h2⟩ := rows_of g n fun i hi => h i (by omega)
    obtain ⟨ps, cs, k1, k2, k3⟩ := h n (by omega)
    refine ⟨rows ++ [ps], by simp [h1], fun i row hi => ?_⟩
    by_cases hlt : i < rows.length
    · rw [List.getElem?_append_left hlt] at hi
      exact h2 i row hi
    · rw [List.getElem?_append_right (by omega)] at hi
      have : i = n := by
        have := (List.getElem?_eq_some_iff.1 hi).1
        simp at this; omega
      subst this
      simp [h1] at hi; subst hi
      exact ⟨cs, k1, k2, k3⟩

section
variable {H : Type} {enc : TypeId × Value → H} {P : Program} {w : World}
/-- What is asked of a type's reading. -/
def Reads (enc : TypeId × Value → H) (P : Program) (w : World) (fuel : Nat) : Prop := ∀ (d : Nat) (t : TypeId) (fs : List FT) (cs : List Value) (x : DataW H × List MemPlace), flatT P d t = some fs → DataW.trod enc P w 0 (fun _ => true) true fuel t cs = some x → ∃ ps, FitL fs ps ∧ Shows w ps cs

theorem readF {fuel d : Nat} (ih : Reads enc P w fuel) {cs : List Value} : ∀ (fs : List Field) (off : Nat) (l : List FT) (xs : List (DataW H × List MemPlace)), flatF P (flatT P d) off fs = some l →
    fs.mapM (fun f => DataW.trod enc P w 0 (fun _ => true) true fuel f.type ((cs.drop f.offset).take (P.cellsOf f.type))) = some xs → cs.length = off + l.length → ∃ ps, FitL l ps ∧ Shows w ps (cs.drop off)
  | [], off, l, xs, hl, hx, hc => by
    simp only [flatF, Option.some.injEq] at hl; subst hl
    simp at hc
    rw [List.drop_eq_nil_of_le (by omega)]
    exact ⟨[], by simp [FitL], Shows.nil w⟩
  | f :: fs, off, l, xs, hl, hx, hc => by
    simp only [flatF] at hl
    split at hl
    · rename_i ho
      split at hl
      · rename_i l₁ h1
        split at hl
        · rename_i hsz
          simp only [Option.map_eq_some_iff] at hl
          obtain ⟨l₂, h2, rfl⟩ := hl
          rw [List.mapM_cons] at hx
          simp only [bind, Option.bind_eq_some_iff, pure, Option.some.injEq] at hx
          obtain ⟨y, y1, ys, y2, rfl⟩ := hx
          obtain ⟨ps, p1, p2⟩ := ih d f.type l₁ _ y h1 y1
          simp only [List.length_append] at hc
          obtain ⟨qs, q1, q2⟩ := readF ih fs (off + l₁.length) l₂ ys h2 y2 (by omega)
          refine ⟨ps ++ qs, FitL_append p1 q1, ?_⟩
          rw [ho, hsz] at p2
          have := p2.append q2
          rw [← List.drop_drop, List.take_append_drop] at this
          exact this
        · cases hl
      · cases hl
    · cases hl
theorem readA {fuel d : Nat} (ih : Reads enc P w fuel) {cs : List Value} {e : TypeId} {l : List FT} (hl : flatT P d e = some l) (hsz : P.cellsOf e = l.length) : ∀ (n i : Nat) (xs : List (DataW H × List MemPlace)),
    (List.range' i n).mapM (fun i => DataW.trod enc P w 0 (fun _ => true) true fuel e ((cs.drop (i * P.cellsOf e)).take (P.cellsOf e))) = some xs → cs.length = (i + n) * l.length → ∃ ps, FitL (List.replicate n l).flatten ps ∧ Shows w ps (cs.drop (i * l.length))
  | 0, i, xs, hx, hc => by
    simp at hc
    rw [List.drop_eq_nil_of_le (by omega)]
    exact ⟨[], by simp [FitL], Shows.nil w⟩
  | n + 1, i, xs, hx, hc => by
    rw [List.range'_succ, List.mapM_cons] at hx
    simp only [bind, Option.bind_eq_some_iff, pure, Option.some.injEq] at hx
    obtain ⟨y, y1, ys, y2, rfl⟩ := hx
    obtain ⟨ps, p1, p2⟩ := ih d e l _ y hl y1
    obtain ⟨qs, q1, q2⟩ := readA ih hl hsz n (i + 1) ys y2 (by rw [hc]; congr 1; omega)
    refine ⟨ps ++ qs, by rw [List.replicate_succ, List.flatten_cons]; exact FitL_append p1 q1, ?_⟩
    rw [hsz] at p2
    have := p2.append q2
    rw [Nat.add_mul, Nat.one_mul, ← List.drop_drop, List.take_append_drop] at this
    exact this

theorem reads : ∀ fuel, Reads enc P w fuel
  | 0 => fun d t fs cs x hf hx => by simp [DataW.trod] at hx
  | fuel + 1 => fun d t fs cs x hf hx => by
    cases d with
    | zero => simp [flatT] at hf
    | succ d =>
      simp only [flatT] at hf
      simp only [DataW.trod] at hx
      cases hu : P.underlying t with
      | none => simp [hu] at hf
      | some k =>
        simp only [hu] at hf hx
        cases k <;> simp only [reduceCtorEq, Option.some.injEq] at hf
        case bool =>
          subst hf
          split at hx <;> simp_all
          rename_i b
          exact ⟨[.bool b], by simp [FitL, Fit], Shows.one (.bool b) rfl⟩
        case int k =>
          subst hf
          split at hx <;> simp_all
          rename_i n hk
          obtain ⟨⟨rfl, hw⟩, _⟩ := hx
          exact ⟨[.int _ n], by simp [FitL, Fit, hw], Shows.one (.int _ n) rfl⟩
        case string =>
          subst hf
          split at hx <;> simp_all
          rename_i s
          exact ⟨[.str s], by simp [FitL, Fit, hx], Shows.one (.str s) rfl⟩
        case slice e =>
          split at hf
          · rename_i l hl
            split at hf
            · rename_i hsz
              injection hf with hf; subst hf
              split at hx
              all_goals try (first | (cases hx; done) | (rename_i h1; cases h1; done) | (rename_i h1 _; cases h1; done))
              · refine ⟨[.lst false l.length []], by simp [FitL, Fit], Shows.one ?_ rfl⟩
                exact .lst false l.length [] none 0 (fun _ _ => undef) (fun j row h => by simp at h) (Nat.le_refl _) (fun h => by cases h) (fun h => by simp at h) (fun ad ea j row k p h => by simp at h) (fun j row k p h => by simp at h)
              · rename_i e' a len cap heq
                cases heq
                split at hx
                case isFalse => cases hx
                rename_i hcond
                obtain ⟨_, hlc, hcm⟩ := hcond
                simp only [Option.bind_eq_some_iff, hsz.1] at hx
                obtain ⟨elems, he, _⟩ := hx
                obtain ⟨g1, g2⟩ := mapM_get he
                obtain ⟨rows, r1, r2⟩ := rows_of (w := w) (es := l) (fun i => w.cells? 0 (a.add (i * l.length)) l.length) len fun i hi => by
                  obtain ⟨y, y1, y2⟩ := g2 i i (by simp [hi])
                  simp only [Option.bind_eq_some_iff] at y2
                  obtain ⟨cs', z1, z2⟩ := y2
                  obtain ⟨ps, p1, p2⟩ := reads fuel d e l cs' y hl z2
                  exact ⟨ps, cs', z1, p1, p2⟩
                refine ⟨[.lst false l.length rows], ?_, Shows.one ?_ rfl⟩
                · simp only [FitL, Fit]
                  refine ⟨_, [], rfl, ⟨rows, rfl, by omega, fun row hr => ?_⟩, rfl⟩
                  obtain ⟨j, hj, e'⟩ := List.getElem_of_mem hr
                  obtain ⟨cs', _, q1, _⟩ := r2 j row (by rw [List.getElem?_eq_getElem hj, e'])
                  exact q1
                · have hrow : ∀ j row k p, rows[j]? = some row → row[k]? = some p → ∃ u, w.cell? (a.add (j * l.length + k)) = some u ∧ a.block < w.heap.size ∧ u.oneCell' = true ∧ Rep (fun b => b < w.heap.size) w p u := by
                    intro j row k p hj hk
                    obtain ⟨cs', z1, z2, z3⟩ := r2 j row hj
                    obtain ⟨c1, c2⟩ := cells_get z1
                    have hkl : k < l.length := by rw [← FitL_length z2]; exact (List.getElem?_eq_some_iff.1 hk).1
                    have hb := World.cells?_block z1 hsz.2
                    rw [Addr.add_block] at hb
                    have hcell := c2 k hkl
                    rw [Addr.add_add] at hcell
                    have hlt : k < cs'.length := by omega
                    rw [List.getElem?_eq_getElem hlt] at hcell
                    obtain ⟨s1, s2⟩ := z3.2 k p _ hk (List.getElem?_eq_getElem hlt)
                    exact ⟨_, hcell, hb, s2, s1⟩
                  have := Rep.lst (ok := fun b => b < w.heap.size) (w := w) false l.length rows (some a) cap (fun j k => (w.cell? (a.add (j * l.length + k))).getD undef)
                    (fun j row hj => by obtain ⟨cs', _, z2, _⟩ := r2 j row hj; exact FitL_length z2) (by omega) (fun h => by cases h) (fun _ => ⟨_, rfl⟩)
                    (fun ad ea j row k p hj hk => by
                      injection ea with ea; subst ea
                      obtain ⟨u, u1, u2, u3, u4⟩ := hrow j row k p hj hk
                      exact ⟨u2, by rw [u1]; rfl, by rw [u1]; exact u3⟩)
                    (fun j row k p hj hk => by
                      obtain ⟨u, u1, u2, u3, u4⟩ := hrow j row k p hj hk
                      simp only [u1, Option.getD_some]; exact u4)
                  rw [r1] at this
                  exact this
            · cases hf
          · cases hf
        case array n e =>
          split at hf
          · rename_i l hl
            split at hf
            · rename_i hsz
              injection hf with hf; subst hf
              split at hx
              all_goals try (first | (cases hx; done) | (rename_i h1; cases h1; done) | (rename_i h1 _; cases h1; done))
              all_goals try (exfalso; simp_all; done)
              rename_i n' e' heq
              cases heq
              split at hx
              case isFalse => cases hx
              rename_i hcl
              simp only [Option.map_eq_some_iff] at hx
              obtain ⟨ys, hy, _⟩ := hx
              rw [List.range_eq_range'] at hy
              rw [hsz.2] at hcl
              have := readA (reads fuel) hl hsz.1 n 0 ys hy (by simpa using hcl)
              simpa using this
            · cases hf
          · cases hf
        case struct fs' =>
          split at hf
          · rename_i l hl
            split at hf
            · rename_i hsz
              injection hf with hf; subst hf
              split at hx
              all_goals try (first | (cases hx; done) | (rename_i h1; cases h1; done) | (rename_i h1 _; cases h1; done))
              all_goals try (exfalso; simp_all; done)
              rename_i fs2 heq
              cases heq
              split at hx
              case isFalse => cases hx
              rename_i hcl
              simp only [Option.map_eq_some_iff] at hx
              obtain ⟨ys, hy, _⟩ := hx
              rw [hsz] at hcl
              have := readF (reads fuel) fs'.toList 0 l ys hl hy (by simpa using hcl)
              simpa using this
            · cases hf
          · cases hf
end
end Go.Ab
