/- Cuts out of texts, lists, slices of the call's own. -/
import Derived.Test.YtknlgjeeenkleaaAE
namespace Go.Ab
open Go.RowKit
set_option linter.unusedVariables false
set_option linter.unusedSimpArgs false

def intAV : AV → Option Int
  | .pv (.int _ n) => some n
  | _ => none
/-- A bound: what is said, or else d. -/
def bndA (d : Int) : Option AV → Option Int
  | none => some d
  | some x => intAV x
/-- A cut, from l to r. -/
def cutA (k : TK) (h : List ABlk) (x : AV) (l r : Int) : Option AV :=
  match k, x with
  | .str, .pv (.str s) => if 0 ≤ l ∧ l ≤ r ∧ r ≤ s.size then some (.pv (.str (s.extract l.toNat r.toNat))) else none
  | .slice _ sz _, .pv (.lst full sz' rows) => if sz' = sz ∧ 0 < sz ∧ 0 ≤ l ∧ l ≤ r ∧ r ≤ rows.length then some (.pv (.lst (full && decide (r = rows.length)) sz ((rows.drop l.toNat).take (r - l).toNat))) else none
  | .slice _ sz _, .vs i off n => match h[i]? with
    | some (.vec sz' _) => if sz' = sz ∧ 0 < sz ∧ 0 ≤ l ∧ l ≤ r ∧ r ≤ n then some (.vs i (off + l.toNat) (r - l).toNat) else none
    | _ => none
  | _, _ => none
def lenZ : AV → Int
  | .pv (.str s) => s.size
  | .pv (.lst _ _ rows) => rows.length
  | .vs _ _ n => n
  | _ => 0
def slcA (k : TK) (h : List ABlk) (x : AV) (lo hi : Option AV) : Option AV :=
  match bndA 0 lo, bndA (lenZ x) hi with
  | some l, some r => cutA k h x l r
  | _, _ => none

theorem bound_run {P : Program} {w : World} {k : IntKind} {n : Int} {y : Nat} {code : BoundsCode} (h : 0 ≤ n ∧ n ≤ y) : (Instr.sliceBound (.int k n) y code).run P w = .ok n.toNat w := by
  simp [Instr.sliceBound, asIntOf, h]

/-- The bounds, as the machine takes them. -/
theorem bounds_run {P : Program} {c : Cx} {h : List ABlk} {w : World} {isS : Bool} {len cap : Nat} {lo hi : Option AV} {lov hiv : Option Value} {l r : Int} (hlo : ∀ x, lo = some x → ∃ v, lov = some v ∧ ARep c h w x v) (hlo' : lo = none → lov = none) (hhi : ∀ x, hi = some x → ∃ v, hiv = some v ∧ ARep c h w x v) (hhi' : hi = none → hiv = none)
    (h1 : bndA 0 lo = some l) (h2 : bndA len hi = some r) (hb : 0 ≤ l ∧ l ≤ r ∧ r ≤ len) (hc : len ≤ cap) : (Instr.sliceBounds isS len cap lov hiv none).run P w = .ok (l.toNat, r.toNat, cap) w := by
  have toInt : ∀ {x : AV} {v : Value} {n : Int}, ARep c h w x v → intAV x = some n → ∃ k, v = .int k n := by
    intro x v n hr hn
    unfold intAV at hn
    split at hn
    · injection hn with hn; subst hn
      cases hr with | pv _ _ hr => cases hr; exact ⟨_, rfl⟩
    · cases hn
  have hL : (lov = none ∧ l = 0) ∨ ∃ k, lov = some (.int k l) := by
    cases hl : lo with
    | none => rw [hl] at h1; simp only [bndA, Option.some.injEq] at h1; exact .inl ⟨hlo' hl, h1.symm⟩
    | some x =>
      obtain ⟨v, e, hr⟩ := hlo x hl
      rw [hl] at h1
      obtain ⟨k, e'⟩ := toInt hr h1
      exact .inr ⟨k, by rw [e, e']⟩
  have hR : (hiv = none ∧ r = len) ∨ ∃ k, hiv = some (.int k r) := by
    cases hl : hi with
    | none => rw [hl] at h2; simp only [bndA, Option.some.injEq] at h2; exact .inl ⟨hhi' hl, h2.symm⟩
    | some x =>
      obtain ⟨v, e, hr⟩ := hhi x hl
      rw [hl] at h2
      obtain ⟨k, e'⟩ := toInt hr h2
      exact .inr ⟨k, by rw [e, e']⟩
  have b1 : ∀ (k : IntKind) (code : BoundsCode), (Instr.sliceBound (.int k l) r.toNat code).run P w = .ok l.toNat w := fun k code => bound_run ⟨hb.1, by omega⟩
  have b2 : ∀ (k : IntKind) (code : BoundsCode), (Instr.sliceBound (.int k r) cap code).run P w = .ok r.toNat w := fun k code => bound_run ⟨by omega, by omega⟩
  rcases hL with ⟨rfl, rfl⟩ | ⟨k, rfl⟩ <;> rcases hR with ⟨rfl, rfl⟩ | ⟨k', rfl⟩
  · simp [Instr.sliceBounds]
  · simp [Instr.sliceBounds, b2]
  · simp only [Int.toNat_natCast] at b1
    simp [Instr.sliceBounds, b1]
  · simp [Instr.sliceBounds, b1, b2]

theorem slcA_run {P : Program} {T : TypeId} {z : Ini} {c : Cx} {h : List ABlk} {w : World} (s : MSim z h c w) {x y : AV} {u : Value} {lo hi : Option AV} {lov hiv : Option Value} (hx : ARep c h w x u) (hlo : ∀ x, lo = some x → ∃ v, lov = some v ∧ ARep c h w x v) (hlo' : lo = none → lov = none) (hhi : ∀ x, hi = some x → ∃ v, hiv = some v ∧ ARep c h w x v) (hhi' : hi = none → hiv = none)
    (hs : slcA (tk P T) h x lo hi = some y) : ∃ q, (Instr.sliceAt T u lov hiv none).run P w = .ok q w ∧ ARep c h w y q := by
  unfold slcA at hs
  split at hs
  case h_2 => cases hs
  rename_i l r h1 h2
  unfold cutA at hs
  split at hs
  · rename_i st hk
    have hu := tk_str hk
    split at hs
    case isFalse => cases hs
    rename_i hb
    injection hs with hs; subst hs
    cases hx with
    | pv _ _ hr =>
    cases hr
    have := bounds_run (P := P) (w := w) (isS := false) (len := st.size) (cap := st.size) hlo hlo' hhi hhi' h1 h2 hb (Nat.le_refl _)
    exact ⟨.string (st.extract l.toNat r.toNat), by simp [Instr.sliceAt, Instr.slice, run_underlying hu, this], .pv _ _ (.str _)⟩
  · rename_i e sz by' full sz' rows hk
    obtain ⟨hu, hsz, _⟩ := tk_slice hk
    split at hs
    case isFalse => cases hs
    rename_i hb
    obtain ⟨rfl, hpos, hb⟩ := hb
    injection hs with hs; subst hs
    cases hx with
    | pv _ _ hr =>
    cases hr with
    | lst _ _ _ A cc us hlen hc hf hA hcell hrep =>
      have hrun := bounds_run (P := P) (w := w) (isS := true) (len := rows.length) (cap := cc) hlo hlo' hhi hhi' h1 h2 hb hc
      have hl' : ((rows.drop l.toNat).take (r - l).toNat).length = r.toNat - l.toNat := by simp; omega
      refine ⟨.slice (if cc = l.toNat then A else A.map (·.add (l.toNat * sz'))) (r.toNat - l.toNat) (cc - l.toNat), by simp [Instr.sliceAt, Instr.slice, run_underlying hu, hrun, szOf_run hsz hpos], .pv _ _ ?_⟩
      have hrow : ∀ (j : Nat) (row : List PV), ((rows.drop l.toNat).take (r - l).toNat)[j]? = some row → j < r.toNat - l.toNat ∧ rows[l.toNat + j]? = some row := by
        intro j row hj
        have hjn : j < r.toNat - l.toNat := by rw [← hl']; exact (List.getElem?_eq_some_iff.1 hj).1
        rw [List.getElem?_take_of_lt (by omega), List.getElem?_drop] at hj
        exact ⟨hjn, hj⟩
      have := Rep.lst (ok := c.ok) (w := w) (full && decide (r = rows.length)) sz' ((rows.drop l.toNat).take (r - l).toNat) (if cc = l.toNat then A else A.map (·.add (l.toNat * sz'))) (cc - l.toNat) (fun j k => us (l.toNat + j) k)
        (fun j row hj => hlen _ row (hrow j row hj).2) (by rw [hl']; omega) (fun hh => by
          simp only [Bool.and_eq_true, decide_eq_true_eq] at hh
          rw [hf hh.1, hl']; omega) (fun h0 => by
          rw [hl'] at h0
          obtain ⟨ad, e⟩ := hA (by omega)
          rw [if_neg (by omega), e]; exact ⟨_, rfl⟩)
        (fun ad' e j row k p hj hk => by
          obtain ⟨hjn, hj'⟩ := hrow j row hj
          obtain ⟨ad, ea⟩ := hA (by omega)
          rw [if_neg (by omega), ea] at e
          simp only [Option.map_some, Option.some.injEq] at e
          subst e
          obtain ⟨q1, q2, q3⟩ := hcell ad ea _ row k p hj' hk
          refine ⟨by rw [Addr.add_block]; exact q1, ?_, q3⟩
          rw [Addr.add_add, ← q2]
          congr 2
          rw [Nat.add_mul]; omega)
        (fun j row k p hj hk => hrep _ row k p (hrow j row hj).2 hk)
      rw [hl'] at this
      exact this
  · rename_i e sz by' i off n hk
    obtain ⟨hu, hsz, _⟩ := tk_slice hk
    split at hs
    case h_2 => cases hs
    rename_i sz' rows hi'
    split at hs
    case isFalse => cases hs
    rename_i hb
    obtain ⟨rfl, hpos, hb⟩ := hb
    injection hs with hs; subst hs
    cases hx with
    | vs _ _ _ _ b ho hi2 hbn hv =>
      rw [hi'] at hi2; injection hi2 with hi2; subst hi2
      obtain ⟨g1, A, rfl, g3⟩ := hv _ _ rfl
      obtain ⟨b1, _, _⟩ := s.hs.blk i _ hi'
      have hrun := bounds_run (P := P) (w := w) (isS := true) (len := n) (cap := (c.vd i).2 - off) hlo hlo' hhi hhi' h1 h2 hb (by omega)
      refine ⟨.slice (if (c.vd i).2 - off = l.toNat then A else A.map (·.add (l.toNat * sz'))) (r.toNat - l.toNat) ((c.vd i).2 - off - l.toNat), by simp [Instr.sliceAt, Instr.slice, run_underlying hu, hrun, szOf_run hsz hpos], ?_⟩
      have hn' : (r - l).toNat = r.toNat - l.toNat := by omega
      rw [hn']
      refine .vs i _ _ _ (.vec sz' rows) rfl hi' (by intro h; cases h) fun sz2 rows2 e => ?_
      injection e with e1 e2; subst e1; subst e2
      refine ⟨by omega, _, by congr 1; omega, fun hlt => ?_⟩
      rw [if_neg (by omega), g3 (by omega)]
      simp only [Option.map_some, Addr.add_plain]
      congr 2
      rw [Nat.add_mul]; omega
  · cases hs
end Go.Ab
