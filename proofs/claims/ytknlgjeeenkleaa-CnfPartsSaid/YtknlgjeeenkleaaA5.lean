/- Reading and writing: what a load yields, what a store leaves. -/
import Derived.Test.YtknlgjeeenkleaaA4
import Derived.Laws.CopyRow
namespace Go.Ab
open Go.RowKit
set_option linter.unusedVariables false
set_option linter.unusedSimpArgs false

/-! ### Pure values out of others -/
mutual
def pur : AV → Option PV
  | .pv p => some p
  | .agg xs => (purL xs).map .agg
  | .tup xs => (purL xs).map .tup
  | .ifc t x => (pur x).map (.ifc t)
  | _ => none
def purL : List AV → Option (List PV)
  | [] => some []
  | x :: xs => match pur x, purL xs with
    | some p, some ps => some (p :: ps)
    | _, _ => none
end

theorem purL_get : ∀ {xs : List AV} {ps : List PV}, purL xs = some ps → xs.length = ps.length ∧ ∀ (k : Nat) (p : PV), ps[k]? = some p → ∃ x, xs[k]? = some x ∧ pur x = some p
  | [], ps, h => by simp [purL] at h; subst h; exact ⟨rfl, fun k p hk => by simp at hk⟩
  | x :: xs, ps, h => by
    rw [purL] at h
    split at h
    · rename_i p qs h1 h2
      injection h with h; subst h
      obtain ⟨h3, h4⟩ := purL_get h2
      refine ⟨by simp [h3], fun k q hk => ?_⟩
      cases k with
      | zero => simp at hk; subst hk; exact ⟨x, rfl, h1⟩
      | succ k => exact h4 k q (by simpa using hk)
    · cases h

theorem purL_map (ps : List PV) : purL (ps.map .pv) = some ps := by
  induction ps with
  | nil => rfl
  | cons p ps ih => simp [purL, pur, ih]
theorem purL_append {xs ys : List AV} {ps qs : List PV} (h1 : purL xs = some ps) (h2 : purL ys = some qs) : purL (xs ++ ys) = some (ps ++ qs) := by
  induction xs generalizing ps with
  | nil => simp [purL] at h1; subst h1; simpa using h2
  | cons x xs ih =>
    rw [purL] at h1
    split at h1
    · rename_i p rs g1 g2
      injection h1 with h1; subst h1
      simp [purL, g1, ih g2]
    · cases h1

theorem ARep.pur {c : Cx} {h : List ABlk} {w : World} {x : AV} {v : Value} (r : ARep c h w x v) : ∀ {p : PV}, Ab.pur x = some p → Rep c.ok w p v := by
  induction r with
  | pv p v hr => intro q hq; simp [Ab.pur] at hq; subst hq; exact hr
  | agg xs vs hl ho hr ih =>
    intro q hq
    simp only [Ab.pur, Option.map_eq_some_iff] at hq
    obtain ⟨ps, hp, rfl⟩ := hq
    obtain ⟨h1, h2⟩ := purL_get hp
    refine .agg ps vs (h1.symm.trans hl) ho fun k p v hk hv => ?_
    obtain ⟨x, hx, hpx⟩ := h2 k p hk
    exact ih k x v hx hv hpx
  | tup xs vs hl hr ih =>
    intro q hq
    simp only [Ab.pur, Option.map_eq_some_iff] at hq
    obtain ⟨ps, hp, rfl⟩ := hq
    obtain ⟨h1, h2⟩ := purL_get hp
    refine .tup ps vs (h1.symm.trans hl) fun k p v hk hv => ?_
    obtain ⟨x, hx, hpx⟩ := h2 k p hk
    exact ih k x v hx hv hpx
  | ifc t x v hr ih =>
    intro q hq
    simp only [Ab.pur, Option.map_eq_some_iff] at hq
    obtain ⟨p, hp, rfl⟩ := hq
    exact .ifc t p v (ih hp)
  | ptr | el | vs | ve | sl | fn | mp | any => intro q hq; simp [Ab.pur] at hq

/-! ### A load -/
/-- Cells that stand one behind the other. -/
def loadC (ag size : Nat) (xs : List AV) (off : Nat) : Option AV :=
  if ag = 2 then (if off + size ≤ xs.length then some (.agg ((xs.drop off).take size)) else none) else if ag = 1 then xs[off]? else none
def loadA (ag size : Nat) (h : List ABlk) : AV → Option AV
  | .ptr i off => match h[i]? with | some (.box cs) => loadC ag size cs off | _ => none
  | .el row off => loadC ag size (row.map .pv) off
  | .ve i r off => match h[i]? with
    | some (.vec sz rows) => match rows[r]? with | some row => loadC ag size (row.map .pv) off | none => none
    | _ => none
  | _ => none

theorem loadC_run {P : Program} {t : TypeId} {c : Cx} {h : List ABlk} {w : World} {xs : List AV} {off : Nat} {a : Addr} {r : AV}
    (hx : ∀ (k : Nat) (x : AV), xs[k]? = some x → ∃ u, w.cell? (a.add k) = some u ∧ u.oneCell' = true ∧ ARep c h w x u) (hl : loadC (agOf P t) (szOf P t) xs off = some r) (hs : 0 < szOf P t) :
    ∃ u, (loadVar t (a.add off)).run P w = .ok u w ∧ ARep c h w r u := by
  unfold loadC at hl
  split at hl
  · rename_i hag
    split at hl
    · rename_i hle
      injection hl with hl; subst hl
      have hall : ∀ j, j < szOf P t → ∃ u, w.cell? ((a.add off).add j) = some u ∧ u.oneCell' = true ∧ ∀ x, xs[off + j]? = some x → ARep c h w x u := by
        intro j hj
        have hlt : off + j < xs.length := by omega
        obtain ⟨u, h1, h2, h3⟩ := hx (off + j) _ (List.getElem?_eq_getElem hlt)
        exact ⟨u, by rw [Addr.add_add]; exact h1, h2, fun x e => by rw [List.getElem?_eq_getElem hlt] at e; injection e with e; exact e ▸ h3⟩
      let us : List Value := (List.range (szOf P t)).map fun j => (w.cell? ((a.add off).add j)).getD undef
      have hus : ∀ j v, us[j]? = some v → j < szOf P t ∧ w.cell? ((a.add off).add j) = some v := by
        intro j v hv
        simp only [us, List.getElem?_map] at hv
        rcases Nat.lt_or_ge j (szOf P t) with hj | hj
        · obtain ⟨u, h1, _⟩ := hall j hj
          simp [List.getElem?_range hj, h1] at hv
          exact ⟨hj, by rw [h1, hv]⟩
        · simp [List.getElem?_eq_none (show (List.range (szOf P t)).length ≤ j by simpa using hj)] at hv
      have hlen : us.length = szOf P t := by simp [us]
      have hr := run_loadCells_list (P := P) w (a.add off) us (fun j v hv => (hus j v hv).2)
      rw [hlen] at hr
      refine ⟨.agg us.toArray, by simp [loadVar, Sem.run_bind, agOf_run hag (by omega), szOf_run rfl hs, hr], .agg _ us (by simp [hlen]; omega) (fun v hv => ?_) fun k x v hk hv => ?_⟩
      · obtain ⟨j, hj, e⟩ := List.getElem_of_mem hv
        obtain ⟨h1, h2⟩ := hus j v (by rw [List.getElem?_eq_getElem hj, e])
        obtain ⟨u, g1, g2, _⟩ := hall j h1
        rw [g1] at h2; injection h2 with h2; exact h2 ▸ g2
      · obtain ⟨h1, h2⟩ := hus k v hv
        obtain ⟨u, g1, g2, g3⟩ := hall k h1
        rw [g1] at h2; injection h2 with h2; subst h2
        refine g3 x ?_
        rw [List.getElem?_take_of_lt h1, List.getElem?_drop] at hk
        exact hk
    · cases hl
  · split at hl
    · rename_i hag
      obtain ⟨u, h1, h2, h3⟩ := hx off r hl
      exact ⟨u, by simp [loadVar, Sem.run_bind, agOf_run hag (by omega), h1], h3⟩
    · cases hl

theorem box_cells {z : Ini} {c : Cx} {h : List ABlk} {w : World} (s : MSim z h c w) {i : Nat} {cs : List AV} (hi : h[i]? = some (.box cs)) :
    ∀ (k : Nat) (x : AV), cs[k]? = some x → ∃ u, w.cell? ((⟨c.mu i, 0, none⟩ : Addr).add k) = some u ∧ u.oneCell' = true ∧ ARep c h w x u := by
  intro k x hk
  obtain ⟨vs, ty, h1, h2, h3⟩ := s.hs.blk i _ hi
  obtain ⟨v, hv, ho, hr⟩ := h3 k x hk
  exact ⟨v, by rw [Addr.add_plain, Nat.zero_add]; simp [World.cell?, h1, hv], ho, hr⟩
theorem vec_cells {z : Ini} {c : Cx} {h : List ABlk} {w : World} (s : MSim z h c w) {i sz : Nat} {rows : List (List PV)} (hi : h[i]? = some (.vec sz rows)) {r : Nat} {row : List PV} (hr : rows[r]? = some row) :
    ∀ (k : Nat) (x : AV), (row.map AV.pv)[k]? = some x → ∃ u, w.cell? ((⟨c.mu i, (c.vd i).1 + r * sz, none⟩ : Addr).add k) = some u ∧ u.oneCell' = true ∧ ARep c h w x u := by
  intro k x hk
  obtain ⟨h1, h2, h3⟩ := s.hs.blk i _ hi
  have hlt : r < rows.length := (List.getElem?_eq_some_iff.1 hr).1
  obtain ⟨vs, ty, h4, h5, h6⟩ := h3 (by omega)
  simp only [List.getElem?_map, Option.map_eq_some_iff] at hk
  obtain ⟨p, hp, rfl⟩ := hk
  obtain ⟨v, hv, ho, hrep⟩ := h6 r row k p hr hp
  refine ⟨v, ?_, ho, .pv _ _ hrep⟩
  rw [Addr.add_plain]
  simp only [World.cell?, h4]
  simpa [Nat.add_assoc] using hv

theorem loadA_run {P : Program} {t : TypeId} {z : Ini} {c : Cx} {h : List ABlk} {w : World} (s : MSim z h c w) {x : AV} {v : Value} {r : AV} (hx : ARep c h w x v) (hl : loadA (agOf P t) (szOf P t) h x = some r) (hs : 0 < szOf P t) :
    ∃ u, (Instr.loadAt t v).run P w = .ok u w ∧ ARep c h w r u := by
  cases hx with
  | ptr i off v b ho hi hb hv =>
    simp only [loadA, hi] at hl
    cases b with
    | box cs =>
      obtain ⟨u, h1, h2⟩ := loadC_run (P := P) (t := t) (box_cells s hi) hl hs
      rw [Addr.add_plain, Nat.zero_add] at h1
      exact ⟨u, by simp [Instr.loadAt, Instr.sureAddr, hv cs rfl, h1], h2⟩
    | nb | gone | vec | mp => simp at hl
  | el row off a us hc =>
    obtain ⟨u, h1, h2⟩ := loadC_run (P := P) (t := t) (c := c) (h := h) (xs := row.map .pv) (a := a) (fun k x hk => by
      simp only [List.getElem?_map, Option.map_eq_some_iff] at hk
      obtain ⟨p, hp, rfl⟩ := hk
      obtain ⟨g1, g2, g3, g4⟩ := hc k p hp
      exact ⟨us k, g2, g3, .pv _ _ g4⟩) hl hs
    exact ⟨u, by simp [Instr.loadAt, Instr.sureAddr, h1], h2⟩
  | ve i r off v b ho hi hb hv =>
    simp only [loadA, hi] at hl
    cases b with
    | vec sz rows =>
      simp only at hl
      cases hr : rows[r]? with
      | none => simp [hr] at hl
      | some row =>
        simp only [hr] at hl
        obtain ⟨u, h1, h2⟩ := loadC_run (P := P) (t := t) (vec_cells s hi hr) hl hs
        rw [Addr.add_plain] at h1
        exact ⟨u, by simp [Instr.loadAt, Instr.sureAddr, hv sz rows rfl, h1], h2⟩
    | nb | gone | box | mp => simp at hl
  | pv | vs | sl | agg | tup | fn | ifc | mp | any => simp [loadA] at hl

/-! ### A store -/
/-- Cells put in the place of others. -/
def splice {α : Type} (xs : List α) (off : Nat) : List α → List α
  | [y] => xs.set off y
  | ys => xs.take off ++ ys ++ xs.drop (off + ys.length)
theorem splice_get {α : Type} (xs ys : List α) (off : Nat) (hl : off + ys.length ≤ xs.length) :
    (splice xs off ys).length = xs.length ∧ ∀ k, (splice xs off ys)[k]? = if off ≤ k ∧ k < off + ys.length then ys[k - off]? else xs[k]? := by
  have gen : (xs.take off ++ ys ++ xs.drop (off + ys.length)).length = xs.length ∧ ∀ k, (xs.take off ++ ys ++ xs.drop (off + ys.length))[k]? = if off ≤ k ∧ k < off + ys.length then ys[k - off]? else xs[k]? := by
    refine ⟨by simp; omega, fun k => ?_⟩
    by_cases h1 : k < off
    · rw [if_neg (by omega), List.append_assoc, List.getElem?_append_left (by simp; omega), List.getElem?_take_of_lt h1]
    · by_cases h2 : k < off + ys.length
      · rw [if_pos (by omega), List.getElem?_append_left (by simp; omega), List.getElem?_append_right (by simp; omega)]
        congr 1
        simp; omega
      · rw [if_neg (by omega), List.getElem?_append_right (by simp; omega), List.getElem?_drop]
        congr 1
        simp; omega
  unfold splice
  split
  · rename_i y
    refine ⟨by simp, fun k => ?_⟩
    simp only [List.length_singleton] at hl ⊢
    rw [List.getElem?_set]
    by_cases hk : off = k
    · subst hk; rw [if_pos rfl, if_pos (by omega), if_pos (by omega)]; simp
    · rw [if_neg hk, if_neg (by omega)]
  · exact gen

def storeA (size : Nat) (h : List ABlk) (x : AV) : AV → Option (List (Nat × ABlk))
  | .ptr i off => match h[i]?, acells x with
    | some (.box cs), some ys => if ys.length = size ∧ off + size ≤ cs.length then some [(i, .box (splice cs off ys))] else none
    | _, _ => none
  | .ve i r off => match h[i]?, (acells x).bind purL with
    | some (.vec sz rows), some ys => match rows[r]? with
      | some row => if ys.length = size ∧ off + size ≤ row.length then some [(i, .vec sz (rows.set r (splice row off ys)))] else none
      | none => none
    | _, _ => none
  | _ => none

theorem setRow_world {w : World} {g : Nat} {cs : Array Value} : (w.setRow g cs).os = w.os ∧ (w.setRow g cs).tape = w.tape ∧ (w.setRow g cs).output = w.output ∧ (w.setRow g cs).heap.size = w.heap.size := ⟨rfl, rfl, rfl, setRow_size _ _ _⟩

theorem run_storeVar_into {P : Program} {t : TypeId} {w : World} {g o : Nat} {cur : Array Value} {ty : TypeId} {v : Value} (hg : w.heap[g]? = some (.cells cur ty (0, 0))) (hs : szOf P t = v.cells.size) (h0 : 0 < szOf P t)
    (hl : o + v.cells.size ≤ cur.size) (ho : ∀ u ∈ v.cells.toList, u.oneCell' = true) :
    (storeVar t ⟨g, o, none⟩ v).run P w = .ok () (w.setRow g (cur.toList.take o ++ v.cells.toList ++ cur.toList.drop (o + v.cells.size)).toArray) := by
  have h := run_storeCells_at (P := P) g o ty v.cells.toList 0 cur w hg (by simpa using hl) ho
  simp only [Nat.add_zero, Array.length_toList] at h
  simp [storeVar, Sem.run_bind, szOf_run hs (by omega), h]
end Go.Ab
