/- make: a new slice, all of it as a type begins. -/
import Derived.Test.YtknlgjeeenkleaaAG
import Derived.Laws.MakeOwn
namespace Go.Ab
open Go.RowKit
set_option linter.unusedVariables false
set_option linter.unusedSimpArgs false

/-- 'make([]T, l, c)'. -/
def mkA (P : Program) (n : Nat) (T : TypeId) (x y : AV) : Option (AV × List (Nat × ABlk)) :=
  match tk P T, intAV x, intAV y with
  | .slice e sz by', some l, some c => match zro P e with
    | some zs => (match purL zs with
      | some ps => if 0 < sz ∧ zs.length = sz ∧ 0 ≤ l ∧ l ≤ c ∧ (by' : Int) * c ≤ 281474976710656 ∧ c ≤ 9223372036854775807 then some (.vs n 0 l.toNat, [(n, .vec sz (List.replicate l.toNat ps))]) else none
      | none => none)
    | none => none
  | _, _, _ => none
theorem mkA_run {P : Program} {T : TypeId} {z : Ini} {c : Cx} {h : List ABlk} {w : World} {n : Nat} {x y r : AV} {u v : Value} {d : List (Nat × ABlk)} (s : MSim z h c w) (hx : ARep c h w x u) (hy : ARep c h w y v) (hn : z.n ≤ n) (hu : unborn h n) (ha : mkA P n T x y = some (r, d)) :
    ∃ q w' c', (Instr.makeSlice T u v).run P w = .ok q w' ∧ Later c h w c' (app h d) w' ∧ MSim z (app h d) c' w' ∧ ARep c' (app h d) w' r q := by
  unfold mkA at ha
  split at ha
  case h_2 => cases ha
  rename_i e sz by' l cc hk hl hc
  obtain ⟨hT, hsz, hby⟩ := tk_slice hk
  split at ha
  case h_2 => cases ha
  rename_i zs hz
  split at ha
  case h_2 => cases ha
  rename_i ps hps
  split at ha
  case isFalse => cases ha
  rename_i hcond
  obtain ⟨hpos, hzl, h0, hlc, hb, h63⟩ := hcond
  injection ha with ha; simp only [Prod.mk.injEq] at ha
  obtain ⟨rfl, rfl⟩ := ha
  have toInt : ∀ {x : AV} {v : Value} {n : Int}, ARep c h w x v → intAV x = some n → ∃ k, v = .int k n := by
    intro x v n hr hn
    unfold intAV at hn
    split at hn
    · injection hn with hn; subst hn
      cases hr with | pv _ _ hr => cases hr; exact ⟨_, rfl⟩
    · cases hn
  obtain ⟨kl, rfl⟩ := toInt hx hl
  obtain ⟨kc, rfl⟩ := toInt hy hc
  obtain ⟨ie, hie, hisz, hib⟩ := info_of hsz hpos
  obtain ⟨zv, hzr, hzc⟩ := zro_rep hz c h w
  have hzero : ie.zero = some zv := by
    simp [zeroValue, typeInfo, hie] at hzr
    cases hq : ie.zero with
    | none => simp [hq] at hzr
    | some q => simp [hq] at hzr; rw [hzr]
  have hzs : zv.cells.size = sz := by rw [hzc.1, hzl]
  have hrun := run_make (P := P) w T e ie zv hT hie hzero kl kc l cc h0 hlc (by rw [← hib, hby]; exact hb) h63
  obtain ⟨g1, g2⟩ := purL_get hps
  have hpl : ps.length = sz := by rw [← g1, hzl]
  have hb : BRep (c.born n w.heap.size (0, cc.toNat)) (setx h n (.vec sz (List.replicate l.toNat ps))) (w.alloc (.cells (madeCells zv.cells (cc.toNat * ie.size)) e)) n (.vec sz (List.replicate l.toNat ps)) := by
    refine ⟨by rw [Cx.born_vd]; simp; omega, fun j row hj => ?_, fun _ => ⟨_, e, by rw [Cx.born_mu]; exact heap_alloc_new _ _, by rw [Cx.born_vd, size_madeCells, hisz]; simp, fun j row k p hj hk => ?_⟩⟩
    · obtain ⟨hj1, rfl⟩ := List.getElem?_eq_some_iff.1 hj
      simp [hpl]
    · obtain ⟨hj1, rfl⟩ := List.getElem?_eq_some_iff.1 hj
      simp only [List.length_replicate] at hj1
      simp only [List.getElem_replicate] at hk
      have hkl : k < sz := by rw [← hpl]; exact (List.getElem?_eq_some_iff.1 hk).1
      obtain ⟨a, ha, hpa⟩ := g2 k p hk
      obtain ⟨u, u1, u2, u3⟩ := hzc.2 k a ha
      refine ⟨u, ?_, u2, ((u3.pur hpa).mono (fun b hb => hb) (keep_alloc c.ok w _ s.hs.okb))⟩
      have hlt : j * sz + k < cc.toNat * ie.size := by
        rw [hisz]
        have : (j + 1) * sz ≤ cc.toNat * sz := Nat.mul_le_mul_right _ (by omega)
        rw [Nat.add_mul] at this; omega
      have hmod : (j * sz + k) % sz = k := by rw [Nat.mul_comm, Nat.mul_add_mod, Nat.mod_eq_of_lt hkl]
      rw [Cx.born_vd]
      simp only [Nat.zero_add, madeCells, Array.getElem?_map, Array.getElem?_range, hlt, if_true, Option.map_some, hzs, hmod]
      have hks : k < zv.cells.size := by omega
      rw [Array.getElem?_eq_getElem hks] at u1
      injection u1 with u1
      rw [getElem!_pos zv.cells k hks, u1]
  obtain ⟨L, M⟩ := s.born n hu hn (.vec sz (List.replicate l.toNat ps)) (0, cc.toNat) (.cells (madeCells zv.cells (cc.toNat * ie.size)) e) hb
  refine ⟨_, _, _, hrun, L, M, .vs n 0 _ _ (.vec sz (List.replicate l.toNat ps)) rfl (setx_same _ _ _) (by intro h; cases h) fun sz' rows' e' => ?_⟩
  injection e' with e1 e2; subst e1; subst e2
  refine ⟨by simp, some ⟨w.heap.size, 0, none⟩, by rw [Cx.born_vd]; simp, fun _ => ?_⟩
  rw [Cx.born_mu, Cx.born_vd]
  simp
end Go.Ab
