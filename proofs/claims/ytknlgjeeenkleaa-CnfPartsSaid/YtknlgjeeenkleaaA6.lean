/- What a store leaves; what each plain operation yields. -/
import Derived.Test.YtknlgjeeenkleaaA5
namespace Go.Ab
open Go.RowKit
set_option linter.unusedVariables false
set_option linter.unusedSimpArgs false

theorem arr_splice_get {cur : Array Value} {o : Nat} {vs : List Value} (hl : o + vs.length ≤ cur.size) (k : Nat) :
    (cur.toList.take o ++ vs ++ cur.toList.drop (o + vs.length)).toArray[k]? = (if o ≤ k ∧ k < o + vs.length then vs[k - o]? else cur[k]?) ∧ (cur.toList.take o ++ vs ++ cur.toList.drop (o + vs.length)).toArray.size = cur.size := by
  refine ⟨?_, by simp; omega⟩
  rw [List.getElem?_toArray]
  by_cases h1 : k < o
  · rw [if_neg (by omega), List.append_assoc, List.getElem?_append_left (by simp; omega), List.getElem?_take_of_lt h1, Array.getElem?_toList]
  · by_cases h2 : k < o + vs.length
    · rw [if_pos (by omega), List.getElem?_append_left (by simp; omega), List.getElem?_append_right (by simp; omega)]
      congr 1
      simp; omega
    · rw [if_neg (by omega), List.getElem?_append_right (by simp; omega), List.getElem?_drop, Array.getElem?_toList]
      congr 1
      simp; omega

theorem storeA_run {P : Program} {t : TypeId} {z : Ini} {c : Cx} {h : List ABlk} {w : World} (s : MSim z h c w) {x y : AV} {va v : Value} {d : List (Nat × ABlk)} (hx : ARep c h w x va) (hy : ARep c h w y v)
    (hd : storeA (szOf P t) h y x = some d) (hs : 0 < szOf P t) :
    ∃ w', (Instr.storeAt t va v).run P w = .ok () w' ∧ Later c h w c (app h d) w' ∧ MSim z (app h d) c w' := by
  cases hx with
  | ptr i off va b ho hi hb hv =>
    simp only [storeA, hi] at hd
    cases b with
    | box cs =>
      cases hc : acells y with
      | none => simp [hc] at hd
      | some ys =>
        simp only [hc] at hd
        split at hd
        · rename_i hsz
          injection hd with hd; subst hd
          obtain ⟨g1, g2⟩ := hy.cells hc
          obtain ⟨vs, ty, h1, h2, h3⟩ := s.hs.blk i _ hi
          have hone : ∀ u ∈ v.cells.toList, u.oneCell' = true := by
            intro u hu
            obtain ⟨k, hk, e⟩ := List.getElem_of_mem hu
            have hk' : k < ys.length := by rw [← g1]; simpa using hk
            obtain ⟨q, q1, q2, _⟩ := g2 k _ (List.getElem?_eq_getElem hk')
            rw [← Array.getElem?_toList, List.getElem?_eq_getElem hk] at q1
            injection q1 with q1
            rw [← e, q1]; exact q2
          have hl : off + v.cells.size ≤ vs.size := by rw [g1, h2]; omega
          have hrun := run_storeVar_into (P := P) (t := t) (v := v) (o := off) h1 (by rw [g1]; exact hsz.1.symm) hs hl hone
          have hlen : v.cells.toList.length = ys.length := by simpa using g1
          have hl' : off + v.cells.toList.length ≤ vs.size := by simpa using hl
          have hsg := splice_get cs ys off (by omega)
          refine ⟨_, (by simp only [Instr.storeAt, Instr.sureAddr, hv cs rfl, Sem.run_bind, Sem.run_pure, Result.andThen_ok]; exact hrun), ?_⟩
          simp only [app]
          refine s.turn i (.box cs) _ hi (by simp [lv, hi]) (by simp [lv, setx_same]) ⟨fun cs' _ => ⟨cs, rfl⟩, (fun sz rows e => by cases e), (fun es e => by cases e)⟩ rfl rfl rfl (by simp [setRow_size]) (fun b _ hne => setRow_other _ _ _ _ hne) fun L => ?_
          refine ⟨_, ty, setRow_heap _ _ _ _ _ _ h1, ?_, fun k x hk => ?_⟩
          · have := (arr_splice_get hl' 0).2
            simp only [Array.length_toList] at this
            rw [this, h2, hsg.1]
          · have hag := (arr_splice_get hl' k).1
            simp only [Array.length_toList] at hag
            rw [hag]
            rw [hsg.2 k] at hk
            by_cases hr : off ≤ k ∧ k < off + ys.length
            · rw [if_pos hr] at hk
              rw [if_pos (by omega)]
              obtain ⟨q, q1, q2, q3⟩ := g2 (k - off) x hk
              exact ⟨q, by rw [Array.getElem?_toList]; exact q1, q2, q3.later L⟩
            · rw [if_neg hr] at hk
              rw [if_neg (by omega)]
              obtain ⟨q, q1, q2, q3⟩ := h3 k x hk
              exact ⟨q, q1, q2, q3.later L⟩
        · cases hd
    | nb | gone | vec | mp => simp at hd
  | ve i r off va b ho hi hb hv =>
    simp only [storeA, hi] at hd
    cases b with
    | vec sz rows =>
      cases hc : (acells y).bind purL with
      | none => simp [hc] at hd
      | some ps =>
        simp only [hc] at hd
        obtain ⟨ys, hc1, hc2⟩ := Option.bind_eq_some_iff.1 hc
        cases hrow : rows[r]? with
        | none => simp [hrow] at hd
        | some row =>
          simp only [hrow] at hd
          split at hd
          · rename_i hsz
            injection hd with hd; subst hd
            obtain ⟨g1, g2⟩ := hy.cells hc1
            obtain ⟨p1, p2⟩ := purL_get hc2
            obtain ⟨b1, b2, b3⟩ := s.hs.blk i _ hi
            have hlt : r < rows.length := (List.getElem?_eq_some_iff.1 hrow).1
            obtain ⟨vs, ty, h1, h2, h3⟩ := b3 (by omega)
            have hrl := b2 r row hrow
            have hone : ∀ u ∈ v.cells.toList, u.oneCell' = true := by
              intro u hu
              obtain ⟨k, hk, e⟩ := List.getElem_of_mem hu
              have hk' : k < ys.length := by rw [← g1]; simpa using hk
              obtain ⟨q, q1, q2, _⟩ := g2 k _ (List.getElem?_eq_getElem hk')
              rw [← Array.getElem?_toList, List.getElem?_eq_getElem hk] at q1
              injection q1 with q1
              rw [← e, q1]; exact q2
            have hmul : (r + 1) * sz ≤ (c.vd i).2 * sz := Nat.mul_le_mul_right _ (by omega)
            have hmul' : (r + 1) * sz = r * sz + sz := Nat.succ_mul r sz
            have hl : (c.vd i).1 + r * sz + off + v.cells.size ≤ vs.size := by rw [g1, h2]; omega
            have hrun := run_storeVar_into (P := P) (t := t) (v := v) (o := (c.vd i).1 + r * sz + off) h1 (by rw [g1, p1]; exact hsz.1.symm) hs hl hone
            have hl' : (c.vd i).1 + r * sz + off + v.cells.toList.length ≤ vs.size := by simpa using hl
            have hsg := splice_get row ps off (by omega)
            refine ⟨_, (by simp only [Instr.storeAt, Instr.sureAddr, hv sz rows rfl, Sem.run_bind, Sem.run_pure, Result.andThen_ok]; exact hrun), ?_⟩
            simp only [app]
            refine s.turn i (.vec sz rows) _ hi (by simp [lv, hi]; omega) (by simp [lv, setx_same]; omega) ⟨(fun cs e => by cases e), (fun sz' rows' e => by injection e with e1 e2; subst e1; subst e2; exact ⟨rows, rfl, by simp⟩), (fun es e => by cases e)⟩ rfl rfl rfl (by simp [setRow_size]) (fun b _ hne => setRow_other _ _ _ _ hne) fun L => ?_
            refine ⟨by simpa using b1, fun j row' hj => ?_, fun _ => ⟨_, ty, setRow_heap _ _ _ _ _ _ h1, ?_, fun j row' k p hj hk => ?_⟩⟩
            · rw [List.getElem?_set] at hj
              by_cases e : r = j
              · subst e
                simp only [if_pos, hlt] at hj; injection hj with hj; subst hj
                rw [hsg.1]; exact hrl
              · rw [if_neg e] at hj; exact b2 j row' hj
            · have := (arr_splice_get hl' 0).2
              simp only [Array.length_toList] at this
              rw [this, h2]
            · have hag := (arr_splice_get hl' ((c.vd i).1 + (j * sz + k))).1
              simp only [Array.length_toList] at hag
              rw [hag]
              rw [List.getElem?_set] at hj
              have old : ∀ (row0 : List PV), rows[j]? = some row0 → row0[k]? = some p → ∃ q, vs[(c.vd i).1 + (j * sz + k)]? = some q ∧ q.oneCell' = true ∧ Rep c.ok (w.setRow (c.mu i) (vs.toList.take ((c.vd i).1 + r * sz + off) ++ v.cells.toList ++ vs.toList.drop ((c.vd i).1 + r * sz + off + v.cells.size)).toArray) p q := fun row0 e1 e2 => by
                obtain ⟨q, q1, q2, q3⟩ := h3 j row0 k p e1 e2
                exact ⟨q, q1, q2, q3.mono L.okm L.keep⟩
              by_cases hjr : r = j
              · subst hjr
                simp only [if_pos, hlt] at hj; injection hj with hj; subst hj
                rw [hsg.2 k] at hk
                by_cases hr : off ≤ k ∧ k < off + ps.length
                · rw [if_pos hr] at hk
                  rw [if_pos (by omega)]
                  obtain ⟨xx, e1, e2⟩ := p2 (k - off) p hk
                  obtain ⟨q, q1, q2, q3⟩ := g2 (k - off) xx e1
                  refine ⟨q, ?_, q2, (q3.later L).pur e2⟩
                  rw [Array.getElem?_toList, ← q1]
                  congr 1; omega
                · rw [if_neg hr] at hk
                  rw [if_neg (by omega)]
                  exact old row hrow hk
              · rw [if_neg hjr] at hj
                have hkl : k < sz := by have := b2 j row' hj; have := (List.getElem?_eq_some_iff.1 hk).1; omega
                have hne : ¬ ((c.vd i).1 + r * sz + off ≤ (c.vd i).1 + (j * sz + k) ∧ (c.vd i).1 + (j * sz + k) < (c.vd i).1 + r * sz + off + v.cells.size) := by
                  intro ⟨e1, e2⟩
                  rcases Nat.lt_or_gt_of_ne hjr with hlt' | hlt'
                  · have : (r + 1) * sz ≤ j * sz := Nat.mul_le_mul_right _ hlt'
                    omega
                  · have h5 : (j + 1) * sz ≤ r * sz := Nat.mul_le_mul_right _ hlt'
                    have h6 : (j + 1) * sz = j * sz + sz := Nat.succ_mul j sz
                    omega
                rw [if_neg hne]
                exact old row' hj hk
          · cases hd
    | nb | gone | box | mp => simp at hd
  | pv | el | vs | sl | agg | tup | fn | ifc | mp | any => simp [storeA] at hd

/-! ### What an operation yields -/
section
variable {P : Program} {z : Ini} {o : Oper} {ρ : Operand → Value} {c : Cx} {h : List ABlk} {w : World}

/-- A value, and nothing else. -/
theorem Yields.val (s : MSim z h c w) {r : AV} {v : Value} (he : (execOp ρ o).run P w = .ok (.value v) w) (hr : ARep c h w r v) : Yields P z o ρ c h w r h := by
  unfold Yields
  rw [he]
  exact ⟨c, Later.refl _ _ _, s, hr⟩

/-- A new variable. -/
theorem Yields.var (s : MSim z h c w) {e : TypeId} {v : Value} {xs : List AV} (i : Nat) (hu : unborn h i) (hn : z.n ≤ i)
    (he : (execOp ρ o).run P w = .ok (.value (.pointer (some ⟨w.heap.size, 0, none⟩))) (w.alloc (.cells v.cells e)))
    (hx : v.cells.size = xs.length ∧ ∀ (k : Nat) (x : AV), xs[k]? = some x → ∃ u, v.cells[k]? = some u ∧ u.oneCell' = true ∧ ARep c h w x u) :
    Yields P z o ρ c h w (.ptr i 0) (setx h i (.box xs)) := by
  unfold Yields
  rw [he]
  have L := Later.born s i hu (.box xs) w.heap.size (0, 0) (.cells v.cells e)
  obtain ⟨_, M⟩ := s.born i hu hn (.box xs) (0, 0) (.cells v.cells e) ⟨v.cells, e, by rw [Cx.born_mu]; exact heap_alloc_new w _, hx.1, fun k x hk => by
    obtain ⟨u, h1, h2, h3⟩ := hx.2 k x hk
    exact ⟨u, h1, h2, h3.later L⟩⟩
  exact ⟨_, L, M, .ptr i 0 _ (.box xs) rfl (setx_same _ _ _) (by intro h; cases h) fun cs _ => by rw [Cx.born_mu]⟩

theorem Yields.store (s : MSim z h c w) {t : TypeId} {x y : Operand} {xa ya : AV} {d : List (Nat × ABlk)} (ho : o.op = .store t x y) (hx : ARep c h w xa (ρ x)) (hy : ARep c h w ya (ρ y))
    (hd : storeA (szOf P t) h ya xa = some d) (hs : 0 < szOf P t) : Yields P z o ρ c h w .any (app h d) := by
  obtain ⟨w', h1, h2, h3⟩ := storeA_run (P := P) (t := t) s hx hy hd hs
  unfold Yields
  have : (execOp ρ o).run P w = .ok .skip w' := by simp [execOp, ho, h1]
  rw [this]
  exact ⟨c, h2, h3, .any _⟩
end
end Go.Ab
