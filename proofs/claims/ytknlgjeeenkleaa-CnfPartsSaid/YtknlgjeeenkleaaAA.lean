/- A slice literal, as a list that nobody changes any more. -/
import Derived.Test.YtknlgjeeenkleaaA9
import Derived.Great.BuildSlice
namespace Go.Ab
open Go.RowKit
set_option linter.unusedVariables false
set_option linter.unusedSimpArgs false

/-- Cells by rows. -/
def chunk (sz : Nat) : Nat → List PV → List (List PV)
  | 0, _ => []
  | n + 1, ps => ps.take sz :: chunk sz n (ps.drop sz)
theorem chunk_length (sz : Nat) : ∀ (n : Nat) (ps : List PV), (chunk sz n ps).length = n
  | 0, _ => rfl
  | n + 1, ps => by simp [chunk, chunk_length sz n]
theorem chunk_get (sz : Nat) : ∀ (n : Nat) (ps : List PV) (j : Nat) (row : List PV), (chunk sz n ps)[j]? = some row → j < n ∧ row = (ps.drop (j * sz)).take sz
  | 0, _, j, row, h => by simp [chunk] at h
  | n + 1, ps, 0, row, h => by simp [chunk] at h; exact ⟨by omega, by simp [h]⟩
  | n + 1, ps, j + 1, row, h => by
    simp only [chunk, List.getElem?_cons_succ] at h
    obtain ⟨h1, h2⟩ := chunk_get sz n _ j row h
    refine ⟨by omega, ?_⟩
    rw [h2, List.drop_drop]
    congr 2
    rw [Nat.add_mul]; omega

def repA (zs : List AV) : Nat → List AV
  | 0 => []
  | n + 1 => zs ++ repA zs n
theorem repA_length (zs : List AV) : ∀ n, (repA zs n).length = n * zs.length
  | 0 => by simp [repA]
  | n + 1 => by simp [repA, repA_length zs n, Nat.add_mul]; omega
theorem repA_get (zs : List AV) (hz : 0 < zs.length) : ∀ (n k : Nat), k < n * zs.length → (repA zs n)[k]? = zs[k % zs.length]?
  | 0, k, h => by omega
  | n + 1, k, h => by
    rw [repA]
    by_cases hk : k < zs.length
    · rw [List.getElem?_append_left hk, Nat.mod_eq_of_lt hk]
    · have hk' : zs.length ≤ k := by omega
      rw [List.getElem?_append_right hk', repA_get zs hz n (k - zs.length) (by rw [Nat.add_mul] at h; omega), ← Nat.mod_eq_sub_mod hk']

/-- A slice literal: how many cells an element has; the rows. -/
def buildS (P : Program) (t : TypeId) (len : Nat) (parts : List (Nat × AV)) : Option PV :=
  match tk P t with
  | .slice e sz _ => match zro P e with
    | some zs => if sz = zs.length ∧ 0 < sz ∧ 0 < len ∧ len * sz ≤ 16777216 then (match fillA (fun i => some (i * sz, sz)) (repA zs len) parts with
      | some xs => match purL xs with | some ps => if ps.length = len * sz then some (.lst true sz (chunk sz len ps)) else none | none => none
      | none => none) else if len = 0 ∧ parts = [] ∧ 0 < sz then some (.lst true sz []) else none
    | none => none
  | _ => none

theorem run_buildSlice0 {P : Program} (w : World) (t e : TypeId) (hu : P.underlying t = some (.slice e)) (hs : 0 < szOf P e) :
    (Instr.buildSlice t 0 #[]).run P w = .ok (.slice (some ⟨w.heap.size, 0, none⟩) 0 0) (w.alloc (.cells #[] e)) := by
  have e0 : ∀ f : Nat → Value, Array.map f (Array.range 0) = #[] := fun f => Array.eq_empty_of_size_eq_zero (by simp)
  simp [Instr.buildSlice, run_underlying hu, szOf_run rfl hs, Instr.fill, newRow, e0]

theorem buildS_run {P : Program} {t : TypeId} {len : Nat} {c : Cx} {h : List ABlk} {w : World} {l : List (Nat × AV)} {vs : Array (Nat × Value)} {p : PV} (hl : l.length = vs.size)
    (hp : ∀ (k : Nat) (i : Nat) (x : AV), l[k]? = some (i, x) → ∃ v, vs[k]? = some (i, v) ∧ ARep c h w x v) (hb : buildS P t len l = some p) (hok : ∀ b, c.ok b → b < w.heap.size) :
    ∃ (cs : Array Value) (e : TypeId) (v : Value), (Instr.buildSlice t len vs).run P w = .ok v (w.alloc (.cells cs e)) ∧ Rep (fun x => c.ok x ∨ x = w.heap.size) (w.alloc (.cells cs e)) p v := by
  unfold buildS at hb
  split at hb
  · rename_i e sz b hk
    obtain ⟨hu, hsz, hby⟩ := tk_slice hk
    split at hb
    · rename_i zs hz
      obtain ⟨zv, hzr, hzc⟩ := zro_rep hz c h w
      split at hb
      · rename_i hc
        obtain ⟨hzl, hpos, hlen, hsmall⟩ := hc
        split at hb
        · rename_i xs hf
          split at hb
          · rename_i ps hps
            split at hb
            · rename_i hpl
              injection hb with hb; subst hb
              obtain ⟨ie, hie⟩ : ∃ i, P.info? e = some i := by
                cases hi : P.info? e with
                | none => simp [szOf, hi] at hsz; omega
                | some i => exact ⟨i, rfl⟩
              have hisz : ie.size = sz := by rw [← hsz]; simp [szOf, hie]
              have hzero : ie.zero = some zv := by
                simp [zeroValue, typeInfo, hie] at hzr
                cases hq : ie.zero with
                | none => simp [hq] at hzr
                | some q => simp [hq] at hzr; rw [hzr]
              have hzs : zv.cells.size = sz := by rw [hzc.1, hzl]
              have hcz : CRep c h w (repA zs len) ((Array.range (len * sz)).map (zv.cells[· % zv.cells.size]!)) := by
                refine ⟨by simp [repA_length, hzl], fun k x hk => ?_⟩
                have hkl : k < len * sz := by have := (List.getElem?_eq_some_iff.1 hk).1; rw [repA_length, ← hzl] at this; exact this
                rw [repA_get zs (by omega) len k (by rw [← hzl]; exact hkl)] at hk
                obtain ⟨u, u1, u2, u3⟩ := hzc.2 _ x hk
                refine ⟨u, ?_, u2, u3⟩
                rw [hzc.1]
                simp only [Array.getElem?_map, Array.getElem?_range, hkl, if_true, Option.map_some]
                have hlt : k % zs.length < zv.cells.size := by rw [hzs, ← hzl]; exact Nat.mod_lt _ (by omega)
                rw [Array.getElem?_eq_getElem hlt] at u1
                injection u1 with u1
                rw [getElem!_pos zv.cells (k % zs.length) hlt, u1]
              obtain ⟨cs, f1, f2⟩ := fillA_run l vs.toList (repA zs len) xs _ (by simpa using hl) (fun k i x hk => by simpa using hp k i x hk) hcz hf
              refine ⟨cs, e, .slice (some ⟨w.heap.size, 0, none⟩) len len, run_buildSlice w t e len vs cs ie zv hu hie hzero (by rw [hisz]; omega) (by rw [hisz]; have := Nat.mul_pos hlen hpos; omega) (by rw [hisz]; exact f1), ?_⟩
              obtain ⟨g1, g2⟩ := purL_get hps
              have hcl : (chunk sz len ps).length = len := chunk_length _ _ _
              have hrow : ∀ (j : Nat) (row : List PV) (k : Nat) (q : PV), (chunk sz len ps)[j]? = some row → row[k]? = some q → ∃ u, cs[j * sz + k]? = some u ∧ u.oneCell' = true ∧ Rep c.ok w q u := by
                intro j row k q hj hkq
                obtain ⟨hjn, rfl⟩ := chunk_get sz len ps j row hj
                have hk : k < sz := by have := (List.getElem?_eq_some_iff.1 hkq).1; simp at this; omega
                rw [List.getElem?_take_of_lt hk, List.getElem?_drop] at hkq
                obtain ⟨x, hx, hpx⟩ := g2 _ q hkq
                obtain ⟨u, u1, u2, u3⟩ := f2.2 _ x hx
                exact ⟨u, u1, u2, u3.pur hpx⟩
              have := Rep.lst (ok := fun x => c.ok x ∨ x = w.heap.size) (w := w.alloc (.cells cs e)) true sz (chunk sz len ps) (some ⟨w.heap.size, 0, none⟩) len (fun j k => (cs[j * sz + k]?).getD undef)
                (fun j row hj => by
                  obtain ⟨hjn, rfl⟩ := chunk_get sz len ps j row hj
                  have : (j + 1) * sz ≤ len * sz := Nat.mul_le_mul_right _ (by omega)
                  rw [Nat.add_mul] at this
                  simp; omega) (by rw [hcl]; exact Nat.le_refl _) (fun _ => hcl.symm) (fun _ => ⟨_, rfl⟩)
                (fun ad ea j row k q hj hkq => by
                  injection ea with ea; subst ea
                  obtain ⟨u, u1, u2, u3⟩ := hrow j row k q hj hkq
                  refine ⟨.inr rfl, ?_, by rw [u1]; exact u2⟩
                  rw [Addr.add_plain]
                  simp only [World.cell?, heap_alloc_new, Nat.zero_add, u1, Option.getD_some]
                  rfl)
                (fun j row k q hj hkq => by
                  obtain ⟨u, u1, u2, u3⟩ := hrow j row k q hj hkq
                  simp only [u1, Option.getD_some]
                  exact u3.mono (fun b hb => .inl hb) (keep_alloc c.ok w _ hok))
              rw [hcl] at this
              exact this
            · cases hb
          · cases hb
        · cases hb
      · split at hb
        · rename_i h0
          obtain ⟨rfl, rfl, hpos⟩ := h0
          injection hb with hb; subst hb
          have hv : vs = #[] := Array.eq_empty_of_size_eq_zero (by simpa using hl.symm)
          subst hv
          exact ⟨#[], e, _, run_buildSlice0 w t e hu (by omega), .lst true sz [] _ 0 (fun _ _ => undef) (fun j row h => by simp at h) (Nat.le_refl _) (fun _ => rfl) (fun h => by simp at h) (fun ad ea j row k p h => by simp at h) (fun j row k p h => by simp at h)⟩
        · cases hb
    · cases hb
  · cases hb
end Go.Ab
