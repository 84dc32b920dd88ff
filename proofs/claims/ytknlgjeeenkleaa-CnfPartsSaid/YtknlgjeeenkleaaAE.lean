/- append: the operation. -/
import Derived.Test.YtknlgjeeenkleaaAD
import Derived.Deep.Upon
namespace Go.Ab
open Go.RowKit
set_option linter.unusedVariables false
set_option linter.unusedSimpArgs false

theorem info_of {P : Program} {e : TypeId} {sz : Nat} (h : szOf P e = sz) (hp : 0 < sz) : ∃ ie, P.info? e = some ie ∧ ie.size = sz ∧ byOf P e = ie.bytes := by
  cases hi : P.info? e with
  | none => simp [szOf, hi] at h; omega
  | some i => exact ⟨i, rfl, by rw [← h]; simp [szOf, hi], by simp [byOf, hi]⟩

theorem appA_run {P : Program} {T Tx ty : TypeId} {z : Ini} {c : Cx} {h : List ABlk} {w : World} {n : Nat} {x y r : AV} {u v : Value} {d : List (Nat × ABlk)} (s : MSim z h c w) (hx : ARep c h w x u) (hy : ARep c h w y v) (hn : z.n ≤ n) (hu : unborn h n) (ha : appA P n h T Tx x y = some (r, d)) :
    ∃ q w' c', (Builtin.append_ #[T, Tx] ty #[u, v]).run P w = .ok q w' ∧ Later c h w c' (app h d) w' ∧ MSim z (app h d) c' w' ∧ ARep c' (app h d) w' r q := by
  unfold appA at ha
  split at ha
  case h_2 => cases ha
  rename_i e sz by' hk
  obtain ⟨hT, hsz, hby⟩ := tk_slice hk
  split at ha
  case h_2 => cases ha
  rename_i zs o rows rows2 hz hxo hyr
  split at ha
  case isFalse => cases ha
  rename_i hcond
  obtain ⟨hpos, hzl, hb1, hb2⟩ := hcond
  obtain ⟨ie, hie, hisz, hib⟩ := info_of hsz hpos
  obtain ⟨zv, hzr, hzc⟩ := zro_rep hz c h w
  have hzero : ie.zero = some zv := by
    simp [zeroValue, typeInfo, hie] at hzr
    cases hq : ie.zero with
    | none => simp [hq] at hzr
    | some q => simp [hq] at hzr; rw [hzr]
  have hzs : zv.cells.size = sz := by rw [hzc.1, hzl]
  obtain ⟨us2, R2, S2⟩ := yRows_src s hy hyr hpos
  have S2' : Src P ie.size Tx v rows2.length (cellsR us2 sz rows2.length) w := by rw [hisz]; exact S2
  -- no room
  have grow : ∀ {c₁ : Cx} {h₁ : List ABlk} {us : Nat → Nat → Value} {A : Option Addr} {cap : Nat}, MSim z h₁ c₁ w → Later c h w c₁ h₁ w → (∀ b, c.ok b → c₁.ok b) → unborn h₁ n → RowsAs c.ok w sz rows us → Src P sz T (.slice A rows.length cap) rows.length (cellsR us sz rows.length) w → cap < rows.length + rows2.length →
      ∃ q w' c', (Builtin.append_ #[T, Tx] ty #[.slice A rows.length cap, v]).run P w = .ok q w' ∧ Later c h w c' (setx h₁ n (.vec sz (rows ++ rows2))) w' ∧ MSim z (setx h₁ n (.vec sz (rows ++ rows2))) c' w' ∧ ARep c' (setx h₁ n (.vec sz (rows ++ rows2))) w' (.vs n 0 (rows.length + rows2.length)) q := by
    intro c₁ h₁ us A cap s₁ L₁ hok hu₁ R S hg
    have hrun := run_append_grow_src (P := P) w T Tx ty e ie zv hT hie hzero A rows.length cap (cellsR us sz rows.length) (by rw [hisz]; exact S.cellsD) v rows2.length _ S2' hg (by omega) (growslice_fits hg (by rw [← hib, hby]; exact hb1))
    obtain ⟨c', g1, g2, g3⟩ := app_grow s₁ hu₁ hn (R.mono hok (fun _ _ => rfl)) (R2.mono hok (fun _ _ => rfl)) (grownCap_ge w (rows.length + rows2.length) cap e) (zs := Builtin.zeroCells zv.cells (grownCap w (rows.length + rows2.length) cap e - (rows.length + rows2.length))) (by rw [size_zeroCells, hzs]) e
    exact ⟨_, _, c', hrun, L₁.trans g1, g2, g3⟩
  -- the slice itself
  unfold xOwn at hxo
  split at hxo
  · rename_i sz' rows'
    cases hx with
    | pv _ _ hr =>
    have full : ∃ A, u = .slice A rows.length rows.length ∧ ∃ us, RowsAs c.ok w sz rows us ∧ Src P sz T u rows.length (cellsR us sz rows.length) w ∧ o = none := by
      have hr' : Rep c.ok w (.lst true sz rows) u ∧ o = none := by
        split at hxo
        · rename_i he; subst he
          injection hxo with hxo; simp only [Prod.mk.injEq] at hxo
          obtain ⟨rfl, rfl⟩ := hxo
          exact ⟨hr, rfl⟩
        · split at hxo
          · injection hxo with hxo; simp only [Prod.mk.injEq] at hxo
            obtain ⟨rfl, rfl⟩ := hxo
            exact ⟨Sub0 hr, rfl⟩
          · cases hxo
      obtain ⟨us, R, S⟩ := rep_src hT hpos hr'.1
      cases hr'.1 with
      | lst _ _ _ A cc us' h1 h2 h3 h4 h5 h6 =>
        have := h3 rfl
        subst this
        exact ⟨A, rfl, us, R, S, hr'.2⟩
    obtain ⟨A, rfl, us, R, S, rfl⟩ := full
    cases rows2 with
    | nil => simp at ha
    | cons q qs =>
      simp only [Option.some.injEq, Prod.mk.injEq] at ha
      obtain ⟨rfl, rfl⟩ := ha
      obtain ⟨q', w', c', g1, g2, g3, g4⟩ := grow s (Later.refl _ _ _) (fun _ h => h) hu R S (by simp)
      exact ⟨q', w', c', g1, g2, g3, g4⟩
  · rename_i i off n'
    split at hxo
    case isFalse => cases hxo
    rename_i hoff; subst hoff
    split at hxo
    case h_2 => cases hxo
    rename_i sz' rows' hi
    split at hxo
    case isFalse => cases hxo
    rename_i hh
    obtain ⟨rfl, rfl⟩ := hh
    injection hxo with hxo; simp only [Prod.mk.injEq] at hxo
    obtain ⟨rfl, rfl⟩ := hxo
    simp only at ha
    split at ha
    case isFalse => cases ha
    rename_i hin
    injection ha with ha; simp only [Prod.mk.injEq] at ha
    obtain ⟨rfl, rfl⟩ := ha
    obtain ⟨us, R, S⟩ := yRows_src (P := P) (tx := T) (y := .vs i 0 rows'.length) (rows := rows') (sz := sz') s hx (by simp only [yRows, hk, hi, if_true, List.drop_zero, List.take_length]) hpos
    cases hx with
    | vs _ _ _ _ b ho hi' hb hv =>
    rw [hi] at hi'; injection hi' with hi'; subst hi'
    obtain ⟨h1, A, rfl, h3⟩ := hv _ _ rfl
    obtain ⟨b1, b2, b3⟩ := s.hs.blk i _ hi
    simp only [Nat.sub_zero, Nat.zero_mul, Nat.add_zero] at h3 S ⊢
    obtain ⟨Ld, Md⟩ := s.drop i _ hi (by intro h; cases h) (fun _ => False) (fun x h => h.elim)
    have hne : n ≠ i := by omega
    have hu₁ : unborn (setx h i .gone) n := by
      unfold unborn
      rcases setx_other h i n .gone hne with e | ⟨e1, e2⟩
      · rw [e]; exact hu
      · exact .inr e2
    by_cases hroom : rows'.length + rows2.length ≤ (c.vd i).2
    · by_cases hcap : 0 < (c.vd i).2
      · obtain ⟨vs, te, g1, g2, g3⟩ := b3 hcap
        obtain rfl := h3 hcap
        have hl : lv c h i := by simp [lv, hi, hcap]
        have cell : ∀ (j k : Nat), j < rows'.length → k < sz' → ∃ u, vs[(c.vd i).1 + (j * sz' + k)]? = some u := fun j k hj hk => by
          have e1 := List.getElem?_eq_getElem hj
          have hlen := b2 j _ e1
          have e2 : rows'[j][k]? = some (rows'[j][k]'(by omega)) := List.getElem?_eq_getElem (by omega)
          obtain ⟨u, u1, u2, u3⟩ := g3 j _ k _ e1 e2
          exact ⟨u, u1⟩
        have R' : RowsAs c.ok w sz' rows' (fun j k => (vs[(c.vd i).1 + (j * sz' + k)]?).getD undef) := ⟨b2, fun j row k p hj hkp => by
          obtain ⟨u, u1, u2, u3⟩ := g3 j row k p hj hkp
          simp only [u1, Option.getD_some]; exact ⟨u2, u3⟩⟩
        have hle : (c.vd i).1 + rows'.length * ie.size + (cellsR us2 sz' rows2.length).length ≤ vs.size := by
          rw [cellsR_length, g2, hisz]
          have : (rows'.length + rows2.length) * sz' ≤ (c.vd i).2 * sz' := Nat.mul_le_mul_right _ hroom
          rw [Nat.add_mul] at this; omega
        have hrun := run_append_room_at (P := P) (ty := ty) T Tx e ie hT hie (c.mu i) (c.vd i).1 rows'.length (c.vd i).2 v rows2.length _ S2' hroom g1 hle
        obtain ⟨c', k1, k2, k3⟩ := app_room (g := c.mu i) (vd := c.vd i) Md hu₁ hn (R'.mono (fun b hb => .inl hb) (fun _ _ => rfl)) (R2.mono (fun b hb => .inl hb) (fun _ _ => rfl)) (s.own i hl) (fun h => h.elim (s.hs.nok i hl) id)
          (fun j lj e => by
            by_cases hji : j = i
            · subst hji; simp [lv, setx_same] at lj
            · exact hji (s.hs.inj j i ((lv_setx_other (c := c) (c' := { c with ok := fun x => c.ok x ∨ False }) hji rfl).1 lj) hl e)) g1 g2 hroom
          (fun j k hj hk => by obtain ⟨u, u1⟩ := cell j k hj hk; rw [u1]; rfl)
        rw [hisz] at hrun
        exact ⟨_, _, c', hrun, Ld.trans k1, k2, k3⟩
      · have hv0 : (c.vd i).2 = 0 := by omega
        have r0 : rows' = [] := List.eq_nil_of_length_eq_zero (by omega)
        have r2 : rows2 = [] := List.eq_nil_of_length_eq_zero (by omega)
        subst r0; subst r2
        have hrun := run_append_nothing (P := P) (ty := ty) w T Tx e ie hT hie A 0 (c.vd i).2 (by omega) v (by simpa [cellsR] using S2')
        obtain ⟨k1, k2⟩ := Md.take (w' := w) (g := 0) (vd := (0, 0)) (b := .vec sz' []) hu₁ hn (fun l => by simp [lv, setx_same, Cx.born_vd] at l) rfl rfl rfl (Nat.le_refl _) (fun _ _ _ => rfl) (fun _ => ⟨by simp, fun j row h => by simp at h, fun h => by simp [Cx.born_vd] at h⟩)
        refine ⟨_, _, _, hrun, Ld.trans k1, k2, ?_⟩
        exact .vs n 0 0 _ (.vec sz' []) rfl (setx_same _ _ _) (by intro h; cases h) fun sz2 rows2 e' => by
          injection e' with e1 e2; subst e1; subst e2
          exact ⟨by simp, A, by simp [Cx.born_vd, hv0], fun h => by simp [Cx.born_vd] at h⟩
    · exact grow Md Ld (fun b hb => .inl hb) hu₁ R S (by omega)
  · cases hxo
end Go.Ab
