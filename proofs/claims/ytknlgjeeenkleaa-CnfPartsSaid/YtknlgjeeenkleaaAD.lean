/- append: what the machine does. -/
import Derived.Test.YtknlgjeeenkleaaAC
namespace Go.Ab
open Go.RowKit
set_option linter.unusedVariables false
set_option linter.unusedSimpArgs false

section
variable {P : Program} {z : Ini} {c : Cx} {h : List ABlk} {w : World} {n sz : Nat} {rows rows2 : List (List PV)} {us us2 : Nat → Nat → Value}

theorem app_grow (s : MSim z h c w) (hu : unborn h n) (hn : z.n ≤ n) (R : RowsAs c.ok w sz rows us) (R2 : RowsAs c.ok w sz rows2 us2) {G : Nat} (hG : rows.length + rows2.length ≤ G) {zs : Array Value} (hz : zs.size = (G - (rows.length + rows2.length)) * sz) (e : TypeId) :
    ∃ c', Later c h w c' (setx h n (.vec sz (rows ++ rows2))) (w.drew.alloc (.cells ((cellsR us sz rows.length ++ cellsR us2 sz rows2.length).toArray ++ zs) e)) ∧
      MSim z (setx h n (.vec sz (rows ++ rows2))) c' (w.drew.alloc (.cells ((cellsR us sz rows.length ++ cellsR us2 sz rows2.length).toArray ++ zs) e)) ∧
      ARep c' (setx h n (.vec sz (rows ++ rows2))) (w.drew.alloc (.cells ((cellsR us sz rows.length ++ cellsR us2 sz rows2.length).toArray ++ zs) e)) (.vs n 0 (rows.length + rows2.length)) (.slice (some ⟨w.heap.size, 0, none⟩) (rows.length + rows2.length) G) := by
  have sd : MSim z h c w.drew := s.same rfl rfl rfl rfl
  have Ld : Later c h w c h w.drew := Later.same c h rfl
  have hl := rows_append R R2
  have hb : BRep (c.born n w.drew.heap.size (0, G)) (setx h n (.vec sz (rows ++ rows2))) (w.drew.alloc (.cells ((cellsR us sz rows.length ++ cellsR us2 sz rows2.length).toArray ++ zs) e)) n (.vec sz (rows ++ rows2)) := by
    refine ⟨by rw [Cx.born_vd]; simpa using hG, hl.1, fun _ => ⟨_, e, by rw [Cx.born_mu]; exact heap_alloc_new _ _, ?_, fun j row k p hj hk => ?_⟩⟩
    · rw [Cx.born_vd]
      simp only [Array.size_append, List.size_toArray, List.length_append, cellsR_length, hz]
      have h1 : rows.length * sz + rows2.length * sz = (rows.length + rows2.length) * sz := by rw [Nat.add_mul]
      have h2 : (rows.length + rows2.length) * sz + (G - (rows.length + rows2.length)) * sz = G * sz := by rw [← Nat.add_mul]; congr 1; omega
      omega
    · have hjl : j < rows.length + rows2.length := by have := (List.getElem?_eq_some_iff.1 hj).1; simpa using this
      have hkl : k < sz := by rw [← hl.1 j row hj]; exact (List.getElem?_eq_some_iff.1 hk).1
      obtain ⟨g1, g2⟩ := hl.2 j row k p hj hk
      have hget := cells_append (us := us) (us2 := us2) hjl hkl
      have hlt : j * sz + k < (cellsR us sz rows.length ++ cellsR us2 sz rows2.length).length := (List.getElem?_eq_some_iff.1 hget).1
      refine ⟨_, ?_, g1, (g2.mono (fun b hb => hb) Ld.keep).mono (fun b hb => hb) (keep_alloc c.ok _ _ sd.hs.okb)⟩
      rw [Cx.born_vd]
      simp only [Nat.zero_add]
      rw [Array.getElem?_append_left (by simpa using hlt), List.getElem?_toArray]
      exact hget
  obtain ⟨L, M⟩ := sd.born n hu hn (.vec sz (rows ++ rows2)) (0, G) (.cells ((cellsR us sz rows.length ++ cellsR us2 sz rows2.length).toArray ++ zs) e) hb
  refine ⟨_, Ld.trans L, M, .vs n 0 _ _ (.vec sz (rows ++ rows2)) rfl (setx_same _ _ _) (by intro h; cases h) fun sz' rows' e' => ?_⟩
  injection e' with e1 e2; subst e1; subst e2
  refine ⟨by simp, some ⟨w.heap.size, 0, none⟩, by rw [Cx.born_vd]; simp, fun _ => ?_⟩
  rw [Cx.born_mu, Cx.born_vd]
  simp

theorem app_room (s : MSim z h c w) (hu : unborn h n) (hn : z.n ≤ n) (R : RowsAs c.ok w sz rows us) (R2 : RowsAs c.ok w sz rows2 us2) {g : Nat} {vd : Nat × Nat} (hO : z.O g ∨ z.w.heap.size ≤ g) (hok : ¬ c.ok g) (hinj : ∀ j, lv c h j → c.mu j ≠ g)
    {vs : Array Value} {te : TypeId} (hg : w.heap[g]? = some (.cells vs te (0, 0))) (hsz : vs.size = vd.1 + vd.2 * sz) (hroom : rows.length + rows2.length ≤ vd.2)
    (hold : ∀ (j k : Nat), j < rows.length → k < sz → vs[vd.1 + (j * sz + k)]? = some (us j k)) :
    ∃ c', Later c h w c' (setx h n (.vec sz (rows ++ rows2))) (w.setRow g (vs.toList.take (vd.1 + rows.length * sz) ++ cellsR us2 sz rows2.length ++ vs.toList.drop (vd.1 + rows.length * sz + (cellsR us2 sz rows2.length).length)).toArray) ∧
      MSim z (setx h n (.vec sz (rows ++ rows2))) c' (w.setRow g (vs.toList.take (vd.1 + rows.length * sz) ++ cellsR us2 sz rows2.length ++ vs.toList.drop (vd.1 + rows.length * sz + (cellsR us2 sz rows2.length).length)).toArray) ∧
      ARep c' (setx h n (.vec sz (rows ++ rows2))) (w.setRow g (vs.toList.take (vd.1 + rows.length * sz) ++ cellsR us2 sz rows2.length ++ vs.toList.drop (vd.1 + rows.length * sz + (cellsR us2 sz rows2.length).length)).toArray) (.vs n 0 (rows.length + rows2.length)) (.slice (some ⟨g, vd.1, none⟩) (rows.length + rows2.length) vd.2) := by
  have hl := rows_append R R2
  have hle : vd.1 + rows.length * sz + (cellsR us2 sz rows2.length).length ≤ vs.size := by
    rw [cellsR_length, hsz]
    have : (rows.length + rows2.length) * sz ≤ vd.2 * sz := Nat.mul_le_mul_right _ hroom
    rw [Nat.add_mul] at this; omega
  have hb : Later c h w (c.born n g vd) (setx h n (.vec sz (rows ++ rows2))) (w.setRow g (vs.toList.take (vd.1 + rows.length * sz) ++ cellsR us2 sz rows2.length ++ vs.toList.drop (vd.1 + rows.length * sz + (cellsR us2 sz rows2.length).length)).toArray) → BRep (c.born n g vd) (setx h n (.vec sz (rows ++ rows2))) (w.setRow g (vs.toList.take (vd.1 + rows.length * sz) ++ cellsR us2 sz rows2.length ++ vs.toList.drop (vd.1 + rows.length * sz + (cellsR us2 sz rows2.length).length)).toArray) n (.vec sz (rows ++ rows2)) := by
    intro L
    refine ⟨by rw [Cx.born_vd]; simpa using hroom, hl.1, fun _ => ⟨_, te, by rw [Cx.born_mu]; exact setRow_heap _ _ _ _ _ _ hg, ?_, fun j row k p hj hk => ?_⟩⟩
    · rw [Cx.born_vd, (arr_splice_get hle 0).2, hsz]
    · have hjl : j < rows.length + rows2.length := by have := (List.getElem?_eq_some_iff.1 hj).1; simpa using this
      have hkl : k < sz := by rw [← hl.1 j row hj]; exact (List.getElem?_eq_some_iff.1 hk).1
      obtain ⟨g1, g2⟩ := hl.2 j row k p hj hk
      refine ⟨if j < rows.length then us j k else us2 (j - rows.length) k, ?_, g1, g2.mono L.okm L.keep⟩
      rw [Cx.born_vd, (arr_splice_get hle _).1]
      by_cases hjr : j < rows.length
      · have : j * sz + k < rows.length * sz := by
          have : (j + 1) * sz ≤ rows.length * sz := Nat.mul_le_mul_right _ hjr
          rw [Nat.add_mul] at this; omega
        rw [if_neg (by omega), if_pos hjr]
        exact hold j k hjr hkl
      · have hge : rows.length * sz ≤ j * sz := Nat.mul_le_mul_right _ (by omega)
        have hlt : j * sz + k < (rows.length + rows2.length) * sz := by
          have : (j + 1) * sz ≤ (rows.length + rows2.length) * sz := Nat.mul_le_mul_right _ hjl
          rw [Nat.add_mul] at this; omega
        rw [Nat.add_mul] at hlt
        rw [if_pos (by rw [cellsR_length]; omega), if_neg hjr]
        have e : vd.1 + (j * sz + k) - (vd.1 + rows.length * sz) = (j - rows.length) * sz + k := by rw [Nat.sub_mul]; omega
        rw [e]
        exact cellsR_at us2 (by omega) hkl
  obtain ⟨L, M⟩ := s.take (w' := w.setRow g (vs.toList.take (vd.1 + rows.length * sz) ++ cellsR us2 sz rows2.length ++ vs.toList.drop (vd.1 + rows.length * sz + (cellsR us2 sz rows2.length).length)).toArray) (g := g) (vd := vd) (b := .vec sz (rows ++ rows2)) hu hn (fun _ => ⟨hO, hok, hinj⟩) rfl rfl rfl (by simp [setRow_size]) (fun x hx hne => by
      by_cases hlv : lv (c.born n g vd) (setx h n (.vec sz (rows ++ rows2))) n
      · exact setRow_other _ _ _ _ (hne hlv)
      · have hz : vd.2 = 0 := by
          have : ¬ 0 < vd.2 := fun h0 => hlv (by simp [lv, setx_same, Cx.born_vd, h0])
          omega
        have r0 : rows.length = 0 := by omega
        have r2 : rows2.length = 0 := by omega
        by_cases hxg : x = g
        · subst hxg
          rw [setRow_heap _ _ _ _ _ _ hg, hg]
          simp [r0, r2, cellsR]
        · exact setRow_other _ _ _ _ hxg) hb
  refine ⟨_, L, M, .vs n 0 _ _ (.vec sz (rows ++ rows2)) rfl (setx_same _ _ _) (by intro h; cases h) fun sz' rows' e' => ?_⟩
  injection e' with e1 e2; subst e1; subst e2
  exact ⟨by simp, some ⟨g, vd.1, none⟩, by rw [Cx.born_vd]; simp, fun _ => by rw [Cx.born_mu, Cx.born_vd]; simp⟩
end
end Go.Ab
