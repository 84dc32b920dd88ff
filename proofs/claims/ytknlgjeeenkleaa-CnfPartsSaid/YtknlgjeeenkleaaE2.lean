/- From a contract to a row: 'for every input true, and the input reads as it did'. -/
import Derived.Test.YtknlgjeeenkleaaE1
import Derived.WideShapes
import Derived.OpenShut
import Derived.Below
namespace Go.Ab
open Go.ChangeShapes Go.WideShapes Go.ChangeAt Go.RowKit
set_option linter.unusedVariables false
set_option linter.unusedSimpArgs false

/-- An argument of a type. -/
def FitT (P : Program) (t : TypeId) (p : PV) : Prop := ∃ fs, flatT P 20 t = some fs ∧ (if agOf P t = 2 then ∃ ps, p = .agg ps ∧ FitL fs ps else FitL fs [p])
def FitTs (P : Program) : List TypeId → List PV → Prop
  | [], ps => ps = []
  | t :: ts, ps => ∃ p qs, ps = p :: qs ∧ FitT P t p ∧ FitTs P ts qs

section
variable {H : Type} {enc : TypeId × Value → H} {P : Program} {w : World}
theorem readV {t : TypeId} {fs : List FT} {v : Value} {d : DataW H} {ps : List MemPlace} {r : Reach} {b0 : Nat} (hf : flatT P 20 t = some fs) (hok : Value.okWide P w r b0 t v) (hd : DataW.Trod enc P w 0 (fun _ => true) true t v d ps) :
    ∃ p, FitT P t p ∧ Rep (fun b => b < w.heap.size) w p v := by
  obtain ⟨fuel, hd⟩ := hd
  obtain ⟨qs, q1, q2⟩ := reads fuel 20 t fs _ _ hf hd
  have single : agOf P t ≠ 2 → v.cells = #[v] → ∃ p, FitT P t p ∧ Rep (fun b => b < w.heap.size) w p v := fun hag hc => by
    rw [hc] at q2
    have h1 : qs.length = 1 := q2.1
    obtain ⟨p, rfl⟩ := List.length_eq_one_iff.1 h1
    exact ⟨p, ⟨fs, hf, by rw [if_neg hag]; exact q1⟩, (q2.2 0 p v rfl rfl).1⟩
  have agg : agOf P t = 2 → (∃ cs, v = .agg cs) → ∃ p, FitT P t p ∧ Rep (fun b => b < w.heap.size) w p v := fun hag ⟨cs, hc⟩ => by
    subst hc
    simp only [Value.cells] at q2
    have e : cs = cs.toList.toArray := by simp
    refine ⟨.agg qs, ⟨fs, hf, by rw [if_pos hag]; exact ⟨qs, rfl, q1⟩⟩, ?_⟩
    rw [e]
    refine .agg qs cs.toList q2.1 (fun u hu => ?_) fun k p c hp hc => (q2.2 k p c hp hc).1
    obtain ⟨j, hj, rfl⟩ := List.getElem_of_mem hu
    have hj' : j < qs.length := by rw [q2.1]; exact hj
    exact (q2.2 j qs[j] _ (List.getElem?_eq_getElem hj') (List.getElem?_eq_getElem hj)).2
  have hf : flatT P (19 + 1) t = some fs := hf
  rw [flatT] at hf
  cases hu : P.underlying t with
  | none => simp [hu] at hf
  | some k =>
    cases k <;> simp only [hu, reduceCtorEq] at hf
    case bool => obtain ⟨b, rfl⟩ := okWide_bool hu hok; exact single (by simp [agOf, hu]) rfl
    case int => obtain ⟨b, rfl⟩ := okWide_int hu hok; exact single (by simp [agOf, hu]) rfl
    case string => obtain ⟨b, rfl⟩ := okWide_string hu hok; exact single (by simp [agOf, hu]) rfl
    case slice => obtain ⟨a, l, c, rfl⟩ := okWide_slice hu hok; exact single (by simp [agOf, hu]) rfl
    case array n e => exact agg (by simp [agOf, hu]) (by unfold Value.okWide at hok; rw [hu] at hok; obtain ⟨cs, h, _⟩ := hok; exact ⟨cs, h⟩)
    case struct n => exact agg (by simp [agOf, hu]) (by unfold Value.okWide at hok; rw [hu] at hok; obtain ⟨cs, h, _⟩ := hok; exact ⟨cs, h⟩)

theorem readAll : ∀ {ts : List TypeId} {vs : List Value} {ds : List (DataW H)} {ps : List MemPlace} {r : Reach} {b0 : Nat}, (∀ t ∈ ts, (flatT P 20 t).isSome = true) → (∀ (j : Nat) t v, ts[j]? = some t → vs[j]? = some v → Value.okWide P w r b0 t v) →
    DataW.TrodAll enc P w 0 (fun _ => true) true ts vs ds ps → ∃ pvs, FitTs P ts pvs ∧ Reps (fun b => b < w.heap.size) w pvs vs
  | [], [], [], _, _, _, _, _, _ => ⟨[], rfl, rfl, fun k p v h => by simp at h⟩
  | t :: ts, v :: vs, d :: ds, _, _, _, hf, hok, ⟨p, q, h1, h2, e⟩ => by
    obtain ⟨fs, hfs⟩ := Option.isSome_iff_exists.1 (hf t (by simp))
    obtain ⟨pv, g1, g2⟩ := readV hfs (hok 0 t v rfl rfl) h1
    obtain ⟨pvs, k1, k2, k3⟩ := readAll (fun t ht => hf t (by simp [ht])) (fun j t v ht hv => hok (j + 1) t v (by simpa using ht) (by simpa using hv)) h2
    refine ⟨pv :: pvs, ⟨pv, pvs, rfl, g1, k1⟩, by simp [k2], fun k p v hp hv => ?_⟩
    cases k with
    | zero => simp at hp hv; subst hp; subst hv; exact g2
    | succ k => exact k3 k p v (by simpa using hp) (by simpa using hv)
  | [], _ :: _, _, _, _, _, _, _, h => h.elim
  | [], [], _ :: _, _, _, _, _, _, h => h.elim
  | _ :: _, [], _, _, _, _, _, _, h => h.elim
  | _ :: _, _ :: _, [], _, _, _, _, _, h => h.elim

theorem trodAfter {W W' : World} (hl : laidOutB P = true) (hb : Below W.heap.size W W') : ∀ {ts : List TypeId} {vs : List Value} {ds : List (DataW H)} {ps : List MemPlace}, (∀ t ∈ ts, P.readableRec t = true ∧ t < P.types.size) → (∀ x ∈ ps, x.block < W.heap.size) →
    DataW.TrodAll enc P W 0 (fun _ => true) true ts vs ds ps → DataW.TrodAll enc P W' 0 (fun b => decide (b < W.heap.size)) true ts vs ds ps
  | [], [], [], _, _, _, h => h
  | t :: ts, v :: vs, d :: ds, _, hr, hlt, ⟨p, q, h1, h2, e⟩ => by
    subst e
    exact ⟨p, q, Below.trod hl (hr t (by simp)).1 (hr t (by simp)).2 h1 hb (fun x hx => hlt x (by simp [hx])), trodAfter hl hb (fun t ht => hr t (by simp [ht])) (fun x hx => hlt x (by simp [hx])) h2, rfl⟩
  | [], _ :: _, _, _, _, _, h => h.elim
  | [], [], _ :: _, _, _, _, h => h.elim
  | _ :: _, [], _, _, _, _, h => h.elim
  | _ :: _, _ :: _, [], _, _, _, h => h.elim

theorem FitT.int {t : TypeId} {k : IntKind} {p : PV} (hf : flatT P 20 t = some [.int k]) (ha : agOf P t = 1) (h : FitT P t p) : ∃ n, p = .int k n ∧ (Lit.int k n).wf = true := by
  obtain ⟨fs, h1, h2⟩ := h
  rw [hf] at h1; injection h1 with h1; subst h1
  rw [if_neg (by omega)] at h2
  simp only [FitL, Fit] at h2
  obtain ⟨q, qs, e, h3, _⟩ := h2
  injection e with e; subst e; exact h3
theorem FitT.bool {t : TypeId} {p : PV} (hf : flatT P 20 t = some [.bool]) (ha : agOf P t = 1) (h : FitT P t p) : ∃ b, p = .bool b := by
  obtain ⟨fs, h1, h2⟩ := h
  rw [hf] at h1; injection h1 with h1; subst h1
  rw [if_neg (by omega)] at h2
  simp only [FitL, Fit] at h2
  obtain ⟨q, qs, e, h3, _⟩ := h2
  injection e with e; subst e; exact h3
theorem FitT.str {t : TypeId} {p : PV} (hf : flatT P 20 t = some [.str]) (ha : agOf P t = 1) (h : FitT P t p) : ∃ s : ByteArray, p = .str s ∧ s.size ≤ maxLen := by
  obtain ⟨fs, h1, h2⟩ := h
  rw [hf] at h1; injection h1 with h1; subst h1
  rw [if_neg (by omega)] at h2
  simp only [FitL, Fit] at h2
  obtain ⟨q, qs, e, h3, _⟩ := h2
  injection e with e; subst e; exact h3
theorem FitT.slice {t : TypeId} {es : List FT} {p : PV} (hf : flatT P 20 t = some [.slice es]) (ha : agOf P t = 1) (h : FitT P t p) : ∃ rows, p = .lst false es.length rows ∧ rows.length ≤ maxLen ∧ ∀ row, row ∈ rows → FitL es row := by
  obtain ⟨fs, h1, h2⟩ := h
  rw [hf] at h1; injection h1 with h1; subst h1
  rw [if_neg (by omega)] at h2
  simp only [FitL, Fit] at h2
  obtain ⟨q, qs, e, h3, _⟩ := h2
  injection e with e; subst e; exact h3
theorem FitT.agg {t : TypeId} {fs : List FT} {p : PV} (hf : flatT P 20 t = some fs) (ha : agOf P t = 2) (h : FitT P t p) : ∃ ps, p = .agg ps ∧ FitL fs ps := by
  obtain ⟨fs', h1, h2⟩ := h
  rw [hf] at h1; injection h1 with h1; subst h1
  rwa [if_pos ha] at h2
theorem rows_map {α : Type} (f : α → List PV) : ∀ {rows : List (List PV)}, (∀ row, row ∈ rows → ∃ x, row = f x) → ∃ m : List α, rows = m.map f
  | [], _ => ⟨[], rfl⟩
  | r :: rows, h => by
    obtain ⟨x, hx⟩ := h r (by simp)
    obtain ⟨m, hm⟩ := rows_map f (rows := rows) fun row hr => h row (by simp [hr])
    exact ⟨x :: m, by simp [hx, hm]⟩

theorem law {f : FuncId} {fn : Func} {s : ChangeSpec} {W : World} {base : Nat} {args : Array Value} {ds gs : List (DataW H)} {before : List MemPlace} {ts : List TypeId} {tb : TypeId} (hl : laidOutB P = true) (hts : fn.params = ts.toArray)
    (hr : (ts.all fun t => P.readableRec t && decide (t < P.types.size) && (flatT P 20 t).isSome) = true) (hres : fn.resultTypes = #[tb]) (hb : P.underlying tb = some .bool) (hv : s.vars = [])
    (hfn : ∀ ds : List (DataW H), ds.length = ts.length → s.fn H ds = { results := [.lit (.bool true)], args := ds })
    (core : ∀ pvs, FitTs P ts pvs → PC P f pvs (.bool true))
    (hval : ∀ (j : Nat) t v, fn.params[j]? = some t → args[j]? = some v → Value.okWide P W .any base t v)
    (hW : DataW.Whole enc P fn.params.toList s.vars false W args.toList ds gs before) :
    Calls P f args W fun e W' => ∃ v, e = .returned v ∧ s.post enc P fn false true false false W args v W' := by
  have hW' := hW
  obtain ⟨p, q, hA, hV, rfl, _, _⟩ := hW
  rw [hv] at hV
  obtain ⟨rfl, rfl⟩ : gs = [] ∧ q = [] := by
    cases gs with
    | nil => exact ⟨rfl, hV⟩
    | cons g gs => exact hV.elim
  rw [hts] at hA hval
  rw [List.all_eq_true] at hr
  have hr' : ∀ t ∈ ts, P.readableRec t = true ∧ t < P.types.size ∧ (flatT P 20 t).isSome = true := fun t ht => by
    have := hr t ht
    simp only [Bool.and_eq_true, decide_eq_true_eq] at this
    exact ⟨this.1.1, this.1.2, this.2⟩
  obtain ⟨pvs, g1, g2⟩ := readAll (ts := ts) (r := .any) (b0 := base) (fun t ht => (hr' t ht).2.2) (fun j t v ht hv => hval j t v (by simpa using ht) (by simpa using hv)) hA
  have hlen : ds.length = ts.length := by
    have : ∀ {ts : List TypeId} {vs : List Value} {ds : List (DataW H)} {ps : List MemPlace}, DataW.TrodAll enc P W 0 (fun _ => true) true ts vs ds ps → ds.length = ts.length := by
      intro ts
      induction ts with
      | nil => intro vs ds ps h; cases vs <;> cases ds <;> first | rfl | exact h.elim
      | cons t ts ih =>
        intro vs ds ps h
        cases vs with
        | nil => exact h.elim
        | cons v vs => cases ds with
          | nil => exact h.elim
          | cons d ds => obtain ⟨_, _, _, h2, _⟩ := h; simp [ih h2]
    exact this hA
  have hlt : ∀ x ∈ p, x.block < W.heap.size := fun x hx => hW'.lt x (by simp [hx])
  have := (core pvs g1).spec (fun b => b < W.heap.size) W args.toList (fun b h => h) g2
  simp only [Array.toArray_toList] at this
  refine this.mono fun e W' he => ?_
  cases e with
  | returned v =>
    obtain ⟨hbel, hrep⟩ := he
    cases hrep
    refine ⟨_, rfl, ds, [], p ++ [], [], p, [], hW', ?_, ?_, ?_, hbel.frame _, fun h => by cases h⟩
    · simp only [List.append_nil, hfn ds hlen, hres]
      exact trodAll_mk1 (shut_bool hb true)
    · simp only [List.append_nil, hfn ds hlen, hts]
      exact trodAfter hl hbel (fun t ht => ⟨(hr' t ht).1, (hr' t ht).2.1⟩) hlt hA
    · simp only [List.append_nil, hfn ds hlen, hv]
      rfl
  | panicked _ => exact he.elim
  | outgrown => exact he.elim
end
end Go.Ab
