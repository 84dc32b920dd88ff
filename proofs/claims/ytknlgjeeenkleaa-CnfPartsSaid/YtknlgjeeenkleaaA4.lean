/- The operations that only reckon, read, write or make a variable: what each yields. -/
import Derived.Test.YtknlgjeeenkleaaA3
namespace Go.Ab
open Go.RowKit
set_option linter.unusedVariables false
set_option linter.unusedSimpArgs false

/-! ### What is told of types -/
inductive TK where
  | int (k : IntKind) | bool | str
  | slice (e sz bytes : Nat)
  | arr (n e sz : Nat) (agg : Bool)
  | strct (fs : List (Nat × Nat × Nat × Bool))
  | other

def szOf (P : Program) (t : TypeId) : Nat := ((P.info? t).map (·.size)).getD 0
def byOf (P : Program) (t : TypeId) : Nat := ((P.info? t).map (·.bytes)).getD 0
/-- 2: a struct or an array; 1: another type; 0: none. -/
def agOf (P : Program) (t : TypeId) : Nat := match P.underlying t with | some (.struct _) | some (.array _ _) => 2 | some _ => 1 | none => 0
def tk (P : Program) (t : TypeId) : TK := match P.underlying t with
  | some (.int k) => .int k
  | some .bool => .bool
  | some .string => .str
  | some (.slice e) => .slice e (szOf P e) (byOf P e)
  | some (.array n e) => .arr n e (szOf P e) (agOf P e == 2)
  | some (.struct fs) => .strct (fs.toList.map fun f => (f.type, f.offset, szOf P f.type, agOf P f.type == 2))
  | _ => .other

def constV : Value → Option AV
  | .int k n => some (.pv (.int k n))
  | .bool b => some (.pv (.bool b))
  | .string s => some (.pv (.str s))
  | .slice none 0 0 => some (.pv (.lst true 0 []))
  | .pointer none => some (.pv .nilPtr)
  | .map none => some (.pv .nilMap)
  | .nilFunc => some (.pv .nilFn)
  | .nilIface => some (.pv .nilIfc)
  | _ => none
def constVs : List Value → Option (List AV)
  | [] => some []
  | v :: l => match constV v, constVs l with | some x, some xs => some (x :: xs) | _, _ => none
/-- A type's zero value, cell by cell. -/
def zro (P : Program) (t : TypeId) : Option (List AV) := ((P.info? t).bind (·.zero)).bind fun v => constVs v.cells.toList

theorem rep_nil (ok : Nat → Prop) (w : World) (sz : Nat) : Rep ok w (.lst true sz []) (.slice none 0 0) :=
  .lst true sz [] none 0 (fun _ _ => undef) (fun j row h => by simp at h) (Nat.le_refl _) (fun _ => rfl) (fun h => by simp at h) (fun ad e => by cases e) (fun j row k p h => by simp at h)

theorem constV_rep {v : Value} {x : AV} (h : constV v = some x) (c : Cx) (hh : List ABlk) (w : World) : ARep c hh w x v ∧ v.oneCell' = true := by
  unfold constV at h
  split at h <;> first | (injection h with h; subst h; exact ⟨.pv _ _ (by first | exact rep_nil _ _ _ | constructor), rfl⟩) | cases h
theorem constVs_rep : ∀ {vs : List Value} {xs : List AV}, constVs vs = some xs → ∀ (c : Cx) (hh : List ABlk) (w : World),
    vs.length = xs.length ∧ ∀ (k : Nat) (x : AV), xs[k]? = some x → ∃ v, vs[k]? = some v ∧ v.oneCell' = true ∧ ARep c hh w x v
  | [], xs, h, c, hh, w => by simp [constVs] at h; subst h; exact ⟨rfl, fun k x hk => by simp at hk⟩
  | v :: vs, xs, h, c, hh, w => by
    simp only [constVs] at h
    split at h
    · rename_i x ys h1 h2
      injection h with h; subst h
      obtain ⟨h3, h4⟩ := constVs_rep h2 c hh w
      refine ⟨by simp [h3], fun k y hk => ?_⟩
      cases k with
      | zero => simp at hk; subst hk; obtain ⟨g1, g2⟩ := constV_rep h1 c hh w; exact ⟨v, rfl, g2, g1⟩
      | succ k => exact h4 k y (by simpa using hk)
    · cases h

theorem zro_run {P : Program} {t : TypeId} {xs : List AV} (h : zro P t = some xs) (w : World) : ∃ zv, (zeroValue t).run P w = .ok zv w ∧ constVs zv.cells.toList = some xs := by
  unfold zro at h
  cases hi : P.info? t with
  | none => simp [hi] at h
  | some i =>
    cases hz : i.zero with
    | none => simp [hi, hz] at h
    | some zv =>
      simp [hi, hz] at h
      exact ⟨zv, by simp [zeroValue, typeInfo, hi, hz], by simpa using h⟩
theorem szOf_run {P : Program} {t : TypeId} {n : Nat} (h : szOf P t = n) (hn : 0 < n) (w : World) : (sizeOf t).run P w = .ok n w := by
  unfold szOf at h
  cases hi : P.info? t with
  | none => simp [hi] at h; omega
  | some i => simp [hi] at h; subst h; simp [sizeOf, typeInfo, hi]
theorem agOf_run {P : Program} {t : TypeId} {n : Nat} (h : agOf P t = n) (hn : 0 < n) (w : World) : (isAgg t).run P w = .ok (n == 2) w := by
  unfold agOf at h
  cases hu : P.underlying t with
  | none => simp [hu] at h; omega
  | some d =>
    unfold isAgg
    rw [Sem.run_bind, run_underlying hu w]
    simp only [hu] at h
    cases d <;> simp at h <;> subst h <;> simp

/-! ### A value's cells -/
def acells : AV → Option (List AV)
  | .agg xs => some xs
  | .pv (.agg ps) => some (ps.map .pv)
  | .pv (.tup _) => none
  | .tup _ => none
  | .any => none
  | x => some [x]

theorem cells_one {v : Value} (h : v.oneCell' = true) : v.cells = #[v] := by cases v <;> first | rfl | simp [Value.oneCell'] at h

theorem ARep.cells {c : Cx} {h : List ABlk} {w : World} {x : AV} {v : Value} {xs : List AV} (r : ARep c h w x v) (hx : acells x = some xs) :
    v.cells.size = xs.length ∧ ∀ (k : Nat) (x : AV), xs[k]? = some x → ∃ u, v.cells[k]? = some u ∧ u.oneCell' = true ∧ ARep c h w x u := by
  have one : ∀ (u : Value) (y : AV), u.oneCell' = true → u.cells = #[u] → ARep c h w y u → [y] = xs → u.cells.size = xs.length ∧ ∀ (k : Nat) (x : AV), xs[k]? = some x → ∃ q, u.cells[k]? = some q ∧ q.oneCell' = true ∧ ARep c h w x q := by
    rintro u y h1 h2 h3 rfl
    rw [h2]
    refine ⟨rfl, fun k x hk => ?_⟩
    cases k with
    | zero => simp at hk; subst hk; exact ⟨u, rfl, h1, h3⟩
    | succ k => simp at hk
  cases r with
  | pv p _ hr =>
    cases hr with
    | agg ps vs hl ho hp =>
      simp [acells] at hx; subst hx
      refine ⟨by simp [Value.cells, hl], fun k x hk => ?_⟩
      simp only [List.getElem?_map] at hk
      cases hk2 : ps[k]? with
      | none => simp [hk2] at hk
      | some p =>
        simp [hk2] at hk; subst hk
        have hlt : k < vs.length := by rw [← hl]; exact (List.getElem?_eq_some_iff.1 hk2).1
        exact ⟨vs[k], by simp [Value.cells, hlt], ho _ (List.getElem_mem hlt), .pv _ _ (hp k p _ hk2 (List.getElem?_eq_getElem hlt))⟩
    | tup => simp [acells] at hx
    | int | bool | str | nilIfc | nilFn | nilPtr | nilMap => exact one _ _ rfl rfl (.pv _ _ (by constructor)) (by simpa [acells] using hx)
    | lst full sz rows A cc us h1 h2 h3 h4 h5 h6 => exact one _ _ rfl rfl (.pv _ _ (.lst full sz rows A cc us h1 h2 h3 h4 h5 h6)) (by simpa [acells] using hx)
    | ifc t p v hr => exact one _ _ rfl rfl (.pv _ _ (.ifc t p v hr)) (by simpa [acells] using hx)
  | agg ys vs hl ho hr =>
    simp [acells] at hx; subst hx
    refine ⟨by simp [Value.cells, hl], fun k x hk => ?_⟩
    have hlt : k < vs.length := by rw [← hl]; exact (List.getElem?_eq_some_iff.1 hk).1
    exact ⟨vs[k], by simp [Value.cells, hlt], ho _ (List.getElem_mem hlt), hr k x _ hk (List.getElem?_eq_getElem hlt)⟩
  | tup => simp [acells] at hx
  | any => simp [acells] at hx
  | el row off a us hc => exact one _ _ rfl rfl (.el row off a us hc) (by simpa [acells] using hx)
  | fn f ys zs us vs h1 h2 h3 h4 => exact one _ _ rfl rfl (.fn f ys zs us vs h1 h2 h3 h4) (by simpa [acells] using hx)
  | ifc t y v hr => exact one _ _ rfl rfl (.ifc t y v hr) (by simpa [acells] using hx)
  | ptr i off v b ho hi hb hv => exact one _ _ ho (cells_one ho) (.ptr i off v b ho hi hb hv) (by simpa [acells] using hx)
  | vs i off n v b ho hi hb hv => exact one _ _ ho (cells_one ho) (.vs i off n v b ho hi hb hv) (by simpa [acells] using hx)
  | ve i r off v b ho hi hb hv => exact one _ _ ho (cells_one ho) (.ve i r off v b ho hi hb hv) (by simpa [acells] using hx)
  | sl i off n cap v b ho hi hb hv => exact one _ _ ho (cells_one ho) (.sl i off n cap v b ho hi hb hv) (by simpa [acells] using hx)
  | mp i v b ho hi hb hv => exact one _ _ ho (cells_one ho) (.mp i v b ho hi hb hv) (by simpa [acells] using hx)
end Go.Ab
