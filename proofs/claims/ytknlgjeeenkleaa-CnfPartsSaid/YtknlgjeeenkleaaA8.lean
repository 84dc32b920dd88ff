/- Fields, elements, lengths, cuts, values that are built. -/
import Derived.Test.YtknlgjeeenkleaaA7
import Derived.Laws.Slices
namespace Go.Ab
open Go.RowKit
set_option linter.unusedVariables false
set_option linter.unusedSimpArgs false

/-! ### Addresses -/
def fieldA (k : TK) (f : Nat) (x : AV) : Option AV :=
  match k with
  | .strct fs => match fs[f]? with
    | some (_, off, sz, _) => if sz = 0 then none else
      match x with
      | .ptr i o => some (.ptr i (o + off))
      | .el row o => some (.el row (o + off))
      | .ve i r o => some (.ve i r (o + off))
      | _ => none
    | none => none
  | _ => none

/-- An address moved on. -/
def shiftA (n : Nat) : AV → AV
  | .ptr i o => .ptr i (o + n)
  | .el row o => .el row (o + n)
  | .ve i r o => .ve i r (o + n)
  | _ => .any
theorem ARep.shift {c : Cx} {h : List ABlk} {w : World} {x y : AV} {v : Value} {n : Nat} (hx : ARep c h w x v) (hy : y = shiftA n x)
    (hn : ∃ a, v = .pointer (some a)) : ∃ a, v = .pointer (some a) ∧ ARep c h w y (.pointer (some (a.add n))) := by
  obtain ⟨a, rfl⟩ := hn
  refine ⟨a, rfl, ?_⟩
  cases hx with
  | ptr i o _ b ho hi hb hv =>
    subst hy
    refine .ptr i (o + n) _ b rfl hi hb fun cs e => ?_
    have := hv cs e
    injection this with this; injection this with this; subst this
    rw [Addr.add_plain]
  | el row o a us hc => subst hy; rw [Addr.add_add]; exact .el row (o + n) _ us hc
  | ve i r o _ b ho hi hb hv =>
    subst hy
    refine .ve i r (o + n) _ b rfl hi hb fun sz rows e => ?_
    have := hv sz rows e
    injection this with this; injection this with this; subst this
    rw [Addr.add_plain, Nat.add_assoc]
  | _ => subst hy; exact .any _

/-- An address of the call's own, or of an element, is one. -/
theorem ARep.isPtr {c : Cx} {h : List ABlk} {w : World} {x : AV} {v : Value} (hx : ARep c h w x v) (hl : (∃ i o cs, x = .ptr i o ∧ h[i]? = some (.box cs)) ∨ (∃ row o, x = .el row o) ∨ (∃ i r o sz rows, x = .ve i r o ∧ h[i]? = some (.vec sz rows))) :
    ∃ a, v = .pointer (some a) := by
  rcases hl with ⟨i, o, cs, rfl, hi⟩ | ⟨row, o, rfl⟩ | ⟨i, r, o, sz, rows, rfl, hi⟩
  · cases hx with
    | ptr _ _ _ b ho hi' hb hv => rw [hi] at hi'; injection hi' with hi'; subst hi'; exact ⟨_, hv _ rfl⟩
  · cases hx with
    | el _ _ a us hc => exact ⟨_, rfl⟩
  · cases hx with
    | ve _ _ _ _ b ho hi' hb hv => rw [hi] at hi'; injection hi' with hi'; subst hi'; exact ⟨_, hv _ _ rfl⟩

/-- Does x lead to memory that is there? -/
def live (h : List ABlk) : AV → Bool
  | .ptr i _ => match h[i]? with | some (.box _) => true | _ => false
  | .el _ _ => true
  | .ve i _ _ => match h[i]? with | some (.vec _ _) => true | _ => false
  | _ => false
theorem live_ptr {c : Cx} {h : List ABlk} {w : World} {x : AV} {v : Value} (hx : ARep c h w x v) (hl : live h x = true) : ∃ a, v = .pointer (some a) := by
  refine hx.isPtr ?_
  cases x with
  | ptr i o =>
    simp only [live] at hl
    split at hl
    · rename_i cs e; exact .inl ⟨i, o, cs, rfl, e⟩
    · cases hl
  | el row o => exact .inr (.inl ⟨row, o, rfl⟩)
  | ve i r o =>
    simp only [live] at hl
    split at hl
    · rename_i sz rows e; exact .inr (.inr ⟨i, r, o, sz, rows, rfl, e⟩)
    · cases hl
  | _ => simp [live] at hl

theorem fieldA_run {P : Program} {t : TypeId} {f : Nat} {c : Cx} {h : List ABlk} {w : World} {x y : AV} {v : Value} (hx : ARep c h w x v) (hf : fieldA (tk P t) f x = some y) (hl : live h x = true) :
    ∃ u, (Instr.fieldAt t v f).run P w = .ok u w ∧ ARep c h w y u := by
  unfold fieldA at hf
  split at hf
  · rename_i fs hk
    obtain ⟨fs', hu, rfl⟩ := tk_strct hk
    split at hf
    · rename_i q off sz g hg
      split at hf
      · cases hf
      · rename_i hsz
        simp only [List.getElem?_map, Option.map_eq_some_iff] at hg
        obtain ⟨fd, hfd, he⟩ := hg
        simp only [Prod.mk.injEq] at he
        obtain ⟨_, rfl, rfl, _⟩ := he
        have hsz' : 0 < szOf P fd.type := by omega
        obtain ⟨a, rfl⟩ := live_ptr hx hl
        have hy : y = shiftA fd.offset x := by
          cases x <;> simp at hf <;> first | exact hf.symm | cases hf
        obtain ⟨a', e, hr⟩ := hx.shift hy ⟨a, rfl⟩
        injection e with e; injection e with e; subst e
        refine ⟨_, ?_, hr⟩
        have hfd' : fs'[f]? = some fd := by simpa using hfd
        simp [Instr.fieldAt, run_underlying hu, hfd', Instr.sureAddr, fieldPlace, szOf_run rfl hsz']
        omega
    · cases hf
  · cases hf

/-! ### Parts of a value -/
/-- A value's cells, as they stand. -/
def vcells : AV → Option (List AV)
  | .agg xs => some xs
  | .pv (.agg ps) => some (ps.map .pv)
  | _ => none
theorem vcells_rep {c : Cx} {h : List ABlk} {w : World} {x : AV} {v : Value} {xs : List AV} (hx : ARep c h w x v) (he : vcells x = some xs) :
    ∃ vs : List Value, v = .agg vs.toArray ∧ xs.length = vs.length ∧ (∀ u ∈ vs, u.oneCell' = true) ∧ ∀ (k : Nat) (x : AV) (v : Value), xs[k]? = some x → vs[k]? = some v → ARep c h w x v := by
  cases hx with
  | agg ys vs hl ho hr => simp [vcells] at he; subst he; exact ⟨vs, rfl, hl, ho, hr⟩
  | pv p _ hr =>
    cases hr with
    | agg ps vs hl ho hr =>
      simp [vcells] at he; subst he
      refine ⟨vs, rfl, by simpa using hl, ho, fun k x v hk hv => ?_⟩
      simp only [List.getElem?_map, Option.map_eq_some_iff] at hk
      obtain ⟨p, hp, rfl⟩ := hk
      exact .pv _ _ (hr k p v hp hv)
    | _ => simp [vcells] at he
  | _ => simp [vcells] at he

theorem part_run {P : Program} {t : TypeId} {off : Nat} {c : Cx} {h : List ABlk} {w : World} {xs : List AV} {vs : List Value} {y : AV} (hl : xs.length = vs.length) (ho : ∀ u ∈ vs, u.oneCell' = true)
    (hr : ∀ (k : Nat) (x : AV) (v : Value), xs[k]? = some x → vs[k]? = some v → ARep c h w x v) (hs : 0 < szOf P t) (hp : loadC (agOf P t) (szOf P t) xs off = some y) :
    ∃ u, (part t vs.toArray off).run P w = .ok u w ∧ ARep c h w y u := by
  unfold loadC at hp
  split at hp
  · rename_i hag
    split at hp
    · rename_i hle
      injection hp with hp; subst hp
      have he : vs.toArray.extract off (off + szOf P t) = ((vs.drop off).take (szOf P t)).toArray := by
        simp [List.extract_toArray, List.extract_eq_take_drop]
      refine ⟨.agg ((vs.drop off).take (szOf P t)).toArray, by simp [part, agOf_run hag (by omega), szOf_run rfl hs, he], .agg _ _ (by simp [hl]) (fun u hu => ho u (List.mem_of_mem_drop (List.mem_of_mem_take hu))) fun k x v hk hv => ?_⟩
      rcases Nat.lt_or_ge k (szOf P t) with hlt | hge
      · rw [List.getElem?_take_of_lt hlt, List.getElem?_drop] at hk hv
        exact hr _ x v hk hv
      · rw [List.getElem?_eq_none (by simp; omega)] at hk; cases hk
    · cases hp
  · split at hp
    · rename_i hag
      have hlt : off < vs.length := by rw [← hl]; exact (List.getElem?_eq_some_iff.1 hp).1
      exact ⟨vs[off], by simp [part, agOf_run hag (by omega), hlt], hr off y _ hp (List.getElem?_eq_getElem hlt)⟩
    · cases hp

/-- A struct value's field. -/
def partA (P : Program) (k : TK) (f : Nat) (x : AV) : Option AV :=
  match k, vcells x with
  | .strct fs, some xs => match fs[f]? with
    | some (t, off, sz, _) => if sz = 0 then none else loadC (agOf P t) sz xs off
    | none => none
  | _, _ => none
theorem partA_run {P : Program} {t : TypeId} {f : Nat} {c : Cx} {h : List ABlk} {w : World} {x y : AV} {v : Value} (hx : ARep c h w x v) (hf : partA P (tk P t) f x = some y) :
    ∃ u, (Instr.field t v f).run P w = .ok u w ∧ ARep c h w y u := by
  unfold partA at hf
  split at hf
  · rename_i fs xs hk hv
    obtain ⟨fs', hu, rfl⟩ := tk_strct hk
    obtain ⟨vs, rfl, hl, ho, hr⟩ := vcells_rep hx hv
    split at hf
    · rename_i q off sz g hg
      split at hf
      · cases hf
      · rename_i hsz
        simp only [List.getElem?_map, Option.map_eq_some_iff] at hg
        obtain ⟨fd, hfd, he⟩ := hg
        simp only [Prod.mk.injEq] at he
        obtain ⟨rfl, rfl, rfl, _⟩ := he
        obtain ⟨u, h1, h2⟩ := part_run hl ho hr (by omega) hf
        have hfd' : fs'[f]? = some fd := by simpa using hfd
        exact ⟨u, by simp [Instr.field, run_underlying hu, hfd', asAgg, h1], h2⟩
    · cases hf
  · cases hf

/-! ### Elements -/
/-- The address of an element: of an array, of a list, of a slice of the call's own. -/
def elemA (k : TK) (h : List ABlk) (x : AV) (j : Int) : Option AV :=
  match k, x with
  | .arr n _ sz _, .ptr i o => if 0 ≤ j ∧ j < n then if sz = 0 then none else some (.ptr i (o + j.toNat * sz)) else none
  | .slice _ sz _, .pv (.lst _ sz' rows) => if 0 ≤ j then match rows[j.toNat]? with
    | some row => if sz = sz' ∧ 0 < sz then some (.el row 0) else none
    | none => none else none
  | .slice _ sz _, .vs i off n => match h[i]? with
    | some (.vec sz' _) => if 0 ≤ j ∧ j < n then if sz = sz' ∧ 0 < sz then some (.ve i (off + j.toNat) 0) else none else none
    | _ => none
  | .slice _ sz _, .sl i off n _ => if 0 ≤ j ∧ j < n then if sz = 0 then none else some (.ptr i (off + j.toNat * sz)) else none
  | _, _ => none

theorem elemA_run {P : Program} {t : TypeId} {z : Ini} {c : Cx} {h : List ABlk} {w : World} (s : MSim z h c w) {x y : AV} {v : Value} {k : IntKind} {j : Int} (hx : ARep c h w x v) (he : elemA (tk P t) h x j = some y) (hl : ∀ i o, x = .ptr i o → live h x = true)
    (hl' : ∀ i off n cap, x = .sl i off n cap → ∃ cs, h[i]? = some (.box cs)) :
    ∃ u, (Instr.indexAt t v (.int k j)).run P w = .ok u w ∧ ARep c h w y u := by
  unfold elemA at he
  split at he
  · rename_i n e sz g i o hk
    obtain ⟨hu, rfl, _⟩ := tk_arr hk
    split at he
    · rename_i hj
      split at he
      · cases he
      · rename_i hsz
        injection he with he; subst he
        obtain ⟨a, rfl⟩ := live_ptr hx (hl i o rfl)
        obtain ⟨a', e', hr⟩ := hx.shift (n := j.toNat * szOf P e) rfl ⟨a, rfl⟩
        injection e' with e'; injection e' with e'; subst e'
        exact ⟨_, by simp [Instr.indexAt, asIntOf, run_underlying hu, Instr.sureAddr, hj, szOf_run (P := P) (t := e) rfl (by omega)], hr⟩
    · cases he
  · rename_i e sz b fl sz' rows hk
    obtain ⟨hu, rfl, _⟩ := tk_slice hk
    split at he
    · rename_i hj0
      split at he
      · rename_i row hrow
        split at he
        · rename_i hsz
          injection he with he; subst he
          obtain ⟨rfl, hpos⟩ := hsz
          cases hx with
          | pv _ _ hr =>
            cases hr with
            | lst _ _ _ A cc us hlen hc hf hA hcell hrep =>
              have hlt : j.toNat < rows.length := (List.getElem?_eq_some_iff.1 hrow).1
              obtain ⟨ad, rfl⟩ := hA (by omega)
              have hj : 0 ≤ j ∧ j < (rows.length : Int) := ⟨hj0, by omega⟩
              refine ⟨.pointer (some ((ad.add (j.toNat * szOf P e)).add 0)), by simp [Instr.indexAt, asIntOf, run_underlying hu, hj, szOf_run (P := P) (t := e) rfl hpos, Addr.add], .el row 0 (ad.add (j.toNat * szOf P e)) (us j.toNat) fun q p hq => ?_⟩
              obtain ⟨h1, h2, h3⟩ := hcell ad rfl j.toNat row q p hrow hq
              exact ⟨by rw [Addr.add_block]; exact h1, by rw [Addr.add_add]; exact h2, h3, hrep j.toNat row q p hrow hq⟩
        · cases he
      · cases he
    · cases he
  · rename_i e sz b i off n hk
    obtain ⟨hu, rfl, _⟩ := tk_slice hk
    split at he
    · rename_i sz' rows hi
      split at he
      · rename_i hj
        split at he
        · rename_i hsz
          injection he with he; subst he
          obtain ⟨rfl, hpos⟩ := hsz
          cases hx with
          | vs _ _ _ _ b ho hi' hb hv =>
            rw [hi] at hi'; injection hi' with hi'; subst hi'
            obtain ⟨h1, A, rfl, h3⟩ := hv _ _ rfl
            have hcap : rows.length ≤ (c.vd i).2 := (s.hs.blk i _ hi).1
            obtain rfl := h3 (by omega)
            refine ⟨_, by simp [Instr.indexAt, asIntOf, run_underlying hu, hj, szOf_run (P := P) (t := e) rfl hpos]; rfl, .ve i (off + j.toNat) 0 _ _ rfl hi hb fun sz2 rows2 e2 => ?_⟩
            injection e2 with e2 e3; subst e2
            rw [Addr.add_plain, Nat.add_mul]
            congr 3
            simp [Nat.add_assoc]
        · cases he
      · cases he
    · cases he
  · rename_i e sz b i off n cap hk
    obtain ⟨hu, rfl, _⟩ := tk_slice hk
    split at he
    · rename_i hj
      split at he
      · cases he
      · rename_i hsz
        injection he with he; subst he
        obtain ⟨cs, hi⟩ := hl' i off n cap rfl
        cases hx with
        | sl _ _ _ _ _ b ho hi' hb hv =>
          rw [hi] at hi'; injection hi' with hi'; subst hi'
          obtain ⟨h1, A, rfl, h3⟩ := hv _ rfl
          obtain rfl := h3 (by omega)
          refine ⟨_, by simp [Instr.indexAt, asIntOf, run_underlying hu, hj, szOf_run (P := P) (t := e) rfl (by omega)]; rfl, .ptr i _ _ _ rfl hi hb fun cs2 e2 => ?_⟩
          rw [Addr.add_plain]
    · cases he
  · cases he
end Go.Ab
